import PyProof.Rows.All
import Wide.All
import OpenK.AllK
import Wide.FinOn
import HandS.ForMost
import HandS.Wide
import HandS.IsInst
import HandS.Style
import HandS.StrMore
import HandS.More
import HandS.Replace
import HandS.ReplaceLit
import HandS.ReplaceDef
import PySem.Challenge.RW_seawise_k34_plain_there_and_back
set_option Elab.async false
set_option linter.all false
set_option maxRecDepth 100000
set_option maxHeartbeats 4000000
/-! PvA: values as data, owned lists by slots, the state relation. -/
namespace Pv
open PySem PySem.Spec L2

abbrev D := PyData
abbrev Fg := PySem.W.Frag
abbrev Im (K : Fg) (G : Hp) : V → D → Prop := Dp K G
abbrev Ims (K : Fg) (G : Hp) : List V → List D → Prop := DpAll K G

section
variable {K : Fg} {G G' H H' : Hp}
theorem seqT_mono (e : Same G G') {a : Addr} {xs : List V} (h : SqT K G a xs) : SqT K G' a xs := by
  rcases h with (h | ⟨o, h⟩) | h
  · exact .inl (.inl (e _ _ h))
  · exact .inl (.inr ⟨o, e _ _ h⟩)
  · exact .inr h
mutual
theorem Im.mono (e : Same G G') : ∀ (d : D) (v : V), Im K G v d → Im K G' v d
  | .none, _, h => by cases h; exact .non
  | .bool b, _, h => by cases h; exact .bl b
  | .int i, _, h => by cases h; exact .int i
  | .str x, _, h => by cases h; exact .str x
  | .list ds, _, h => by cases h with | lst hs ha => exact .lst (e.seq hs) (Ims.mono e ds _ ha)
  | .tuple ds, _, h => by cases h with | tup hs ha => exact .tup (seqT_mono e hs) (Ims.mono e ds _ ha)
  | .dict _, _, h => by cases h
theorem Ims.mono (e : Same G G') : ∀ (ds : List D) (vs : List V), Ims K G vs ds → Ims K G' vs ds
  | [], _, h => by cases h; exact .nil
  | d :: ds, _, h => by cases h with | cons h1 h2 => exact .cons (Im.mono e d _ h1) (Ims.mono e ds _ h2)
end
theorem Ims.length : ∀ {vs : List V} {ds : List D}, Ims K G vs ds → vs.length = ds.length
  | _, _, .nil => rfl
  | _, _, .cons _ t => by rw [List.length_cons, List.length_cons, Ims.length t]
theorem Ims.get : ∀ {vs : List V} {ds : List D} {i : Nat} {d : D}, Ims K G vs ds → ds[i]? = some d → ∃ v, vs[i]? = some v ∧ Im K G v d
  | _, _, _, _, .nil, e => by simp at e
  | _, _, 0, _, .cons r _, e => by simp at e; subst e; exact ⟨_, rfl, r⟩
  | _, _, i + 1, x, .cons _ t, e => by
    obtain ⟨u, h1, h2⟩ := Ims.get (i := i) (d := x) t (by simpa using e)
    exact ⟨u, by simpa using h1, h2⟩
theorem Ims.append : ∀ {xs ys : List V} {us ws : List D}, Ims K G xs us → Ims K G ys ws → Ims K G (xs ++ ys) (us ++ ws)
  | _, _, _, _, .nil, s => s
  | _, _, _, _, .cons r t, s => .cons r (Ims.append t s)
theorem Ims.set {x : V} {u : D} (r : Im K G x u) : ∀ {xs : List V} {us : List D} (i : Nat), Ims K G xs us → Ims K G (xs.set i x) (us.set i u)
  | _, _, _, .nil => .nil
  | _, _, 0, .cons _ t => .cons r t
  | _, _, i + 1, .cons q t => .cons q (Ims.set r i t)
theorem Ims.take : ∀ {xs : List V} {us : List D} (n : Nat), Ims K G xs us → Ims K G (xs.take n) (us.take n)
  | _, _, 0, _ => .nil
  | _, _, _ + 1, .nil => .nil
  | _, _, n + 1, .cons r t => .cons r (Ims.take n t)
theorem Ims.drop : ∀ {xs : List V} {us : List D} (n : Nat), Ims K G xs us → Ims K G (xs.drop n) (us.drop n)
  | _, _, 0, r => r
  | _, _, _ + 1, .nil => .nil
  | _, _, n + 1, .cons _ t => Ims.drop n t
theorem Ims.one {v : V} {d : D} (h : Im K G v d) : Ims K G [v] [d] := .cons h .nil
theorem Ims.reverse : ∀ {xs : List V} {us : List D}, Ims K G xs us → Ims K G xs.reverse us.reverse
  | _, _, .nil => .nil
  | _, _, .cons r t => by
    rw [List.reverse_cons, List.reverse_cons]
    exact Ims.append (Ims.reverse t) (Ims.one r)
theorem Ims.dropLast {xs : List V} {us : List D} (h : Ims K G xs us) : Ims K G xs.dropLast us.dropLast := by
  rw [List.dropLast_eq_take, List.dropLast_eq_take, h.length]
  exact Ims.take _ h
theorem Ims.eraseIdx : ∀ {xs : List V} {us : List D} (i : Nat), Ims K G xs us → Ims K G (xs.eraseIdx i) (us.eraseIdx i)
  | _, _, _, .nil => .nil
  | _, _, 0, .cons _ t => t
  | _, _, i + 1, .cons r t => .cons r (Ims.eraseIdx i t)
theorem same_upd {p : Addr} {o : HO} (h : H p = none) : Same H (upd H p o) := fun b x e => by
  rw [upd_ne (ne_of_none e h)]; exact e
theorem same_upd2 {p : Addr} {o : HO} (h : Same G H) : Same (upd G p o) (upd H p o) := fun b x e => by
  by_cases hb : b = p
  · subst hb; rw [upd_same] at e ⊢; exact e
  · rw [upd_ne hb] at e ⊢; exact h _ _ e
end

/-- what an owned object holds -/
inductive C where
  | lst (ds : List D)
  | dct (kvs : List (Key × D))
def RepC (K : Fg) (G : Hp) : HO → C → Prop
  | .lst vs, .lst ds => Ims K G vs ds
  | .dK kvs, .dct kds => kvs.map (·.1) = kds.map (·.1) ∧ Ims K G (kvs.map (·.2)) (kds.map (·.2))
  | _, _ => False
theorem RepC.mono {K : Fg} {G G' : Hp} (e : Same G G') {o : HO} {c : C} (h : RepC K G o c) : RepC K G' o c := by
  cases o <;> cases c <;> first | exact h.elim | skip
  · exact Ims.mono e _ _ h
  · exact ⟨h.1, Ims.mono e _ _ h.2⟩

/-- a slot's content: unknown, data, an owned object -/
inductive AV where
  | no
  | im (d : D)
  | own (c : C)
abbrev Ev := List AV

structure Ent where
  H0 : Hp
  G0 : Hp
  π : Nat → Option Addr

def OwnAt (σ : L2.St) (α : Ev) (i : Nat) (p : Addr) : Prop := (∃ c, α[i]? = some (.own c)) ∧ σ[i]? = some (some (.ref p))

structure SR (K : Fg) (Y : Ent) (G H : Hp) (σ : L2.St) (α : Ev) : Prop where
  len : α.length = σ.length
  le : Same G H
  g0 : Same Y.G0 G
  gf : ∀ a, Y.H0 a ≠ none → G a = Y.G0 a
  fr : ∀ a o, Y.H0 a = some o → (∀ i, Y.π i ≠ some a) → H a = some o
  al : ∀ a, Y.H0 a ≠ none → H a ≠ none
  im : ∀ (i : Nat) (d : D), α[i]? = some (.im d) → ∃ v, σ[i]? = some (some v) ∧ Im K G v d
  ow : ∀ (i : Nat) (c : C), α[i]? = some (.own c) → ∃ p o, σ[i]? = some (some (.ref p)) ∧ H p = some o ∧ RepC K G o c ∧ G p = none ∧ (Y.π i = some p ∨ (Y.H0 p = none ∧ ∀ a, Y.π i ≠ some a))
  di : ∀ (i j : Nat) (p : Addr), OwnAt σ α i p → OwnAt σ α j p → i = j
  pt : ∀ i a, Y.π i = some a → Y.H0 a ≠ none

section
variable {K : Fg} {Y : Ent} {G H : Hp} {σ : L2.St} {α : Ev}
/-- an object that nobody owns -/
structure Loose (Y : Ent) (G H : Hp) (σ : L2.St) (α : Ev) (p : Addr) : Prop where
  g : G p = none
  h0 : Y.H0 p = none
  no : ∀ i, ¬ OwnAt σ α i p
theorem SR.gnone (S : SR K Y G H σ α) {p : Addr} (h : H p = none) : G p = none := S.le.free h
theorem SR.h0none (S : SR K Y G H σ α) {p : Addr} (h : H p = none) : Y.H0 p = none := by
  cases q : Y.H0 p with
  | none => rfl
  | some o => exact absurd h (S.al p (by rw [q]; exact Option.some_ne_none _))
theorem SR.noown (S : SR K Y G H σ α) {p : Addr} (h : H p = none) : ∀ i, ¬ OwnAt σ α i p := by
  rintro i ⟨⟨c, hc⟩, hs⟩
  obtain ⟨q, o, h1, h2, _⟩ := S.ow i c hc
  rw [hs] at h1; cases h1
  rw [h] at h2; cases h2
theorem SR.loose (S : SR K Y G H σ α) {p : Addr} (h : H p = none) : Loose Y G H σ α p := ⟨S.gnone h, S.h0none h, S.noown h⟩
/-- a new object, not yet anybody's -/
theorem SR.raw (S : SR K Y G H σ α) {p : Addr} {o : HO} (h : H p = none) : SR K Y G (upd H p o) σ α where
  len := S.len
  le := S.le.trans (same_upd h)
  g0 := S.g0
  gf := S.gf
  fr := fun a u e n => same_upd h _ _ (S.fr a u e n)
  al := fun a e => by
    by_cases ha : a = p
    · subst ha; rw [upd_same]; exact Option.some_ne_none _
    · rw [upd_ne ha]; exact S.al a e
  im := S.im
  ow := fun i c e => by
    obtain ⟨q, u, h1, h2, h3, h4, h5⟩ := S.ow i c e
    exact ⟨q, u, h1, same_upd h _ _ h2, h3, h4, h5⟩
  di := S.di
  pt := S.pt
/-- an object that nobody owns is frozen -/
theorem SR.freeze (S : SR K Y G H σ α) {p : Addr} {o : HO} (h : H p = some o) (l : Loose Y G H σ α p) : SR K Y (upd G p o) H σ α where
  len := S.len
  le := fun a u e => by
    by_cases ha : a = p
    · subst ha; rw [upd_same] at e; cases e; exact h
    · rw [upd_ne ha] at e; exact S.le _ _ e
  g0 := S.g0.trans (same_upd l.g)
  gf := fun a e => by
    have ha : a ≠ p := fun z => by subst z; exact e l.h0
    rw [upd_ne ha]; exact S.gf a e
  fr := S.fr
  al := S.al
  im := fun i d e => by
    obtain ⟨v, h1, h2⟩ := S.im i d e
    exact ⟨v, h1, Im.mono (same_upd l.g) _ _ h2⟩
  ow := fun i c e => by
    obtain ⟨q, u, h1, h2, h3, h4, h5⟩ := S.ow i c e
    have hq : q ≠ p := fun z => by subst z; exact l.no i ⟨⟨c, e⟩, h1⟩
    exact ⟨q, u, h1, h2, h3.mono (same_upd l.g), by rw [upd_ne hq]; exact h4, h5⟩
  di := S.di
  pt := S.pt
/-- a new frozen object -/
theorem SR.cold (S : SR K Y G H σ α) {p : Addr} {o : HO} (h : H p = none) : SR K Y (upd G p o) (upd H p o) σ α :=
  (S.raw h).freeze upd_same (S.loose h |> fun l => ⟨l.g, l.h0, l.no⟩)
theorem SR.sameG (S : SR K Y G H σ α) {p : Addr} {o : HO} (h : H p = none) : Same G (upd G p o) := same_upd (S.gnone h)
/-- an owned object is written -/
theorem SR.write (S : SR K Y G H σ α) {i : Nat} {c c' : C} {p : Addr} {o' : HO} (hc : α[i]? = some (.own c)) (hs : σ[i]? = some (some (.ref p))) (r : RepC K G o' c') : SR K Y G (upd H p o') σ (α.set i (.own c')) := by
  obtain ⟨q, u, h1, h2, h3, h4, h5⟩ := S.ow i c hc
  rw [hs] at h1; cases h1
  have hi : i < α.length := (List.getElem?_eq_some_iff.mp hc).1
  refine ⟨by rw [List.length_set]; exact S.len, fun a x e => ?_, S.g0, S.gf, fun a x e n => ?_, fun a e => ?_, fun j d e => ?_, fun j d e => ?_, fun j k a h1 h2 => ?_, S.pt⟩
  · have ha : a ≠ p := fun z => by subst z; rw [h4] at e; cases e
    rw [upd_ne ha]; exact S.le _ _ e
  · have ha : a ≠ p := fun z => by
      subst z
      rcases h5 with h5 | ⟨h5, _⟩
      · exact n i h5
      · rw [h5] at e; cases e
    rw [upd_ne ha]; exact S.fr a x e n
  · by_cases ha : a = p
    · subst ha; rw [upd_same]; exact Option.some_ne_none _
    · rw [upd_ne ha]; exact S.al a e
  · by_cases hj : i = j
    · subst hj; rw [List.getElem?_set_self hi] at e; cases e
    · rw [List.getElem?_set_ne hj] at e; exact S.im j d e
  · by_cases hj : i = j
    · subst hj
      rw [List.getElem?_set_self hi] at e
      cases e
      exact ⟨p, o', hs, upd_same, r, h4, h5⟩
    · rw [List.getElem?_set_ne hj] at e
      obtain ⟨q, v, k1, k2, k3, k4, k5⟩ := S.ow j d e
      have hq : q ≠ p := fun z => by subst z; exact hj (S.di i j _ ⟨⟨c, hc⟩, hs⟩ ⟨⟨d, e⟩, k1⟩)
      exact ⟨q, v, k1, by rw [upd_ne hq]; exact k2, k3, k4, k5⟩
  · have back : ∀ {j a}, OwnAt σ (α.set i (.own c')) j a → OwnAt σ α j a := fun {j a} ⟨⟨d, e⟩, f⟩ => by
      by_cases hj : i = j
      · subst hj; exact ⟨⟨c, hc⟩, f⟩
      · rw [List.getElem?_set_ne hj] at e; exact ⟨⟨d, e⟩, f⟩
    exact S.di j k a (back h1) (back h2)
theorem SR.set_im (S : SR K Y G H σ α) {i : Nat} {v : V} {d : D} (r : Im K G v d) : SR K Y G H (σ.set i (some v)) (α.set i (.im d)) := by
  refine ⟨by rw [List.length_set, List.length_set]; exact S.len, S.le, S.g0, S.gf, S.fr, S.al, fun j e h => ?_, fun j e h => ?_, fun j k a h1 h2 => ?_, S.pt⟩
  · by_cases hj : i = j
    · subst hj
      by_cases hi : i < α.length
      · rw [List.getElem?_set_self hi] at h; cases h
        exact ⟨v, by rw [List.getElem?_set_self (by rw [← S.len]; exact hi)], r⟩
      · rw [List.getElem?_eq_none (by rw [List.length_set]; omega)] at h; cases h
    · rw [List.getElem?_set_ne hj] at h ⊢; exact S.im j e h
  · by_cases hj : i = j
    · subst hj
      by_cases hi : i < α.length
      · rw [List.getElem?_set_self hi] at h; cases h
      · rw [List.getElem?_eq_none (by rw [List.length_set]; omega)] at h; cases h
    · rw [List.getElem?_set_ne hj] at h ⊢; exact S.ow j e h
  · have back : ∀ {j a}, OwnAt (σ.set i (some v)) (α.set i (.im d)) j a → OwnAt σ α j a := fun {j a} ⟨⟨d', e⟩, f⟩ => by
      by_cases hj : i = j
      · subst hj
        by_cases hi : i < α.length
        · rw [List.getElem?_set_self hi] at e; cases e
        · rw [List.getElem?_eq_none (by rw [List.length_set]; omega)] at e; cases e
      · rw [List.getElem?_set_ne hj] at e f; exact ⟨⟨d', e⟩, f⟩
    exact S.di j k a (back h1) (back h2)
theorem SR.set_own (S : SR K Y G H σ α) {i : Nat} {p : Addr} {o : HO} {c : C} (hn : ∀ a, Y.π i ≠ some a) (h : H p = some o) (r : RepC K G o c) (l : Loose Y G H σ α p) : SR K Y G H (σ.set i (some (.ref p))) (α.set i (.own c)) := by
  refine ⟨by rw [List.length_set, List.length_set]; exact S.len, S.le, S.g0, S.gf, S.fr, S.al, fun j e h => ?_, fun j e h => ?_, fun j k a h1 h2 => ?_, S.pt⟩
  · by_cases hj : i = j
    · subst hj
      by_cases hi : i < α.length
      · rw [List.getElem?_set_self hi] at h; cases h
      · rw [List.getElem?_eq_none (by rw [List.length_set]; omega)] at h; cases h
    · rw [List.getElem?_set_ne hj] at h ⊢; exact S.im j e h
  · by_cases hj : i = j
    · subst hj
      by_cases hi : i < α.length
      · rw [List.getElem?_set_self hi] at h; cases h
        exact ⟨p, o, by rw [List.getElem?_set_self (by rw [← S.len]; exact hi)], by assumption, r, l.g, .inr ⟨l.h0, hn⟩⟩
      · rw [List.getElem?_eq_none (by rw [List.length_set]; omega)] at h; cases h
    · rw [List.getElem?_set_ne hj] at h ⊢; exact S.ow j e h
  · have two : ∀ {j a}, OwnAt (σ.set i (some (.ref p))) (α.set i (.own c)) j a → (j = i ∧ a = p) ∨ (j ≠ i ∧ OwnAt σ α j a) := fun {j a} ⟨⟨d', e⟩, f⟩ => by
      by_cases hj : i = j
      · subst hj
        by_cases hi : i < σ.length
        · rw [List.getElem?_set_self hi] at f; cases f; exact .inl ⟨rfl, rfl⟩
        · rw [List.getElem?_eq_none (by rw [List.length_set]; omega)] at f; cases f
      · rw [List.getElem?_set_ne hj] at e f; exact .inr ⟨fun z => hj z.symm, ⟨d', e⟩, f⟩
    rcases two h1 with ⟨e1, e2⟩ | ⟨e1, e2⟩ <;> rcases two h2 with ⟨f1, f2⟩ | ⟨f1, f2⟩
    · rw [e1, f1]
    · subst e2; exact (l.no _ f2).elim
    · subst f2; exact (l.no _ e2).elim
    · exact S.di j k a e2 f2
/-- slots forgotten -/
theorem SR.forget (S : SR K Y G H σ α) {σ' : L2.St} {α' : Ev} (hl : α'.length = σ'.length) (h : ∀ (i : Nat) (x : AV), α'[i]? = some x → x = .no ∨ (α[i]? = some x ∧ σ'[i]? = σ[i]?)) : SR K Y G H σ' α' := by
  have ow : ∀ {j a}, OwnAt σ' α' j a → OwnAt σ α j a := fun {j a} ⟨⟨d', e⟩, f⟩ => by
    rcases h j _ e with z | ⟨z, q⟩
    · cases z
    · exact ⟨⟨d', z⟩, q ▸ f⟩
  refine ⟨hl, S.le, S.g0, S.gf, S.fr, S.al, fun j e k => ?_, fun j e k => ?_, fun j k a h1 h2 => S.di j k a (ow h1) (ow h2), S.pt⟩
  · rcases h j _ k with z | ⟨z, q⟩
    · cases z
    · rw [q]; exact S.im j e z
  · rcases h j _ k with z | ⟨z, q⟩
    · cases z
    · rw [q]; exact S.ow j e z
/-- another entry: more stood at the entry -/
theorem SR.narrow (S : SR K Y G H σ α) {D : Addr} {o : HO} (h : H D = some o) (l : Loose Y G H σ α D) : SR K ⟨upd Y.H0 D o, G, Y.π⟩ G H σ α where
  len := S.len
  le := S.le
  g0 := Same.refl G
  gf := fun _ _ => rfl
  fr := fun a u e n => by
    by_cases ha : a = D
    · subst ha
      have e' : upd Y.H0 a o a = some u := e
      rw [upd_same] at e'; cases e'; exact h
    · have e' : upd Y.H0 D o a = some u := e
      rw [upd_ne ha] at e'; exact S.fr a u e' n
  al := fun a e => by
    by_cases ha : a = D
    · subst ha; rw [h]; exact Option.some_ne_none _
    · have e' : upd Y.H0 D o a ≠ none := e
      rw [upd_ne ha] at e'; exact S.al a e'
  im := S.im
  ow := fun i c e => by
    obtain ⟨q, u, h1, h2, h3, h4, h5⟩ := S.ow i c e
    have hq : q ≠ D := fun z => by subst z; exact l.no i ⟨⟨c, e⟩, h1⟩
    refine ⟨q, u, h1, h2, h3, h4, ?_⟩
    rcases h5 with h5 | ⟨h5, h6⟩
    · exact .inl h5
    · exact .inr ⟨by show upd Y.H0 D o q = none; rw [upd_ne hq]; exact h5, h6⟩
  di := S.di
  pt := fun i a e => by
    by_cases ha : a = D
    · subst ha; show upd Y.H0 a o a ≠ none; rw [upd_same]; exact Option.some_ne_none _
    · show upd Y.H0 D o a ≠ none; rw [upd_ne ha]; exact S.pt i a e
/-- .. and back: what stood besides is still there, nobody's -/
theorem SR.widen {D : Addr} {o : HO} {G1 H1 : Hp} {σ1 : L2.St} {α1 : Ev} (S : SR K Y G H σ α) (l : Loose Y G H σ α D) (S1 : SR K ⟨upd Y.H0 D o, G, Y.π⟩ G1 H1 σ1 α1) : SR K Y G1 H1 σ1 α1 ∧ Same G G1 ∧ H1 D = some o ∧ Loose Y G1 H1 σ1 α1 D := by
  have hp : ∀ i, Y.π i ≠ some D := fun i z => S.pt i D z l.h0
  have ne : ∀ a, Y.H0 a ≠ none → a ≠ D := fun a e z => by subst z; exact e l.h0
  have up : ∀ a, a ≠ D → upd Y.H0 D o a = Y.H0 a := fun a h => upd_ne h
  have oD : upd Y.H0 D o D = some o := upd_same
  refine ⟨⟨S1.len, S1.le, S.g0.trans S1.g0, fun a e => ?_, fun a u e n => ?_, fun a e => ?_, S1.im, fun i c e => ?_, S1.di, S.pt⟩, S1.g0, S1.fr D o oD hp, ?_, l.h0, ?_⟩
  · exact (S1.gf a (by show upd Y.H0 D o a ≠ none; rw [up a (ne a e)]; exact e)).trans (S.gf a e)
  · exact S1.fr a u (by show upd Y.H0 D o a = some u; rw [up a (ne a (by rw [e]; exact Option.some_ne_none _))]; exact e) n
  · exact S1.al a (by show upd Y.H0 D o a ≠ none; rw [up a (ne a e)]; exact e)
  · obtain ⟨q, u, h1, h2, h3, h4, h5⟩ := S1.ow i c e
    refine ⟨q, u, h1, h2, h3, h4, ?_⟩
    rcases h5 with h5 | ⟨h5, h6⟩
    · exact .inl h5
    · have hq : q ≠ D := fun z => by
        subst z
        have h5' : upd Y.H0 q o q = none := h5
        rw [upd_same] at h5'; cases h5'
      have h5' : upd Y.H0 D o q = none := h5
      rw [up q hq] at h5'
      exact .inr ⟨h5', h6⟩
  · exact (S1.gf D (by show upd Y.H0 D o D ≠ none; rw [oD]; exact Option.some_ne_none _)).trans l.g
  · rintro i ⟨⟨c, hc⟩, hs⟩
    obtain ⟨q, u, h1, h2, h3, h4, h5⟩ := S1.ow i c hc
    rw [hs] at h1; cases h1
    rcases h5 with h5 | ⟨h5, _⟩
    · exact hp i h5
    · have h5' : upd Y.H0 D o D = none := h5
      rw [oD] at h5'; cases h5'
end
end Pv
namespace Pv
open PySem PySem.Spec L2
section
variable {K : Fg} {Y : Ent} {G H : Hp} {σ : L2.St} {α : Ev}
/-- an object that nobody owns is written -/
theorem SR.rewrite (S : SR K Y G H σ α) {p : Addr} {o o' : HO} (h : H p = some o) (l : Loose Y G H σ α p) : SR K Y G (upd H p o') σ α where
  len := S.len
  le := fun a u e => by
    have ha : a ≠ p := fun z => by subst z; rw [l.g] at e; cases e
    rw [upd_ne ha]; exact S.le _ _ e
  g0 := S.g0
  gf := S.gf
  fr := fun a u e n => by
    have ha : a ≠ p := fun z => by subst z; rw [l.h0] at e; cases e
    rw [upd_ne ha]; exact S.fr a u e n
  al := fun a e => by
    by_cases ha : a = p
    · subst ha; rw [upd_same]; exact Option.some_ne_none _
    · rw [upd_ne ha]; exact S.al a e
  im := S.im
  ow := fun i c e => by
    obtain ⟨q, u, h1, h2, h3, h4, h5⟩ := S.ow i c e
    have hq : q ≠ p := fun z => by subst z; exact l.no i ⟨⟨c, e⟩, h1⟩
    exact ⟨q, u, h1, by rw [upd_ne hq]; exact h2, h3, h4, h5⟩
  di := S.di
  pt := S.pt
end
end Pv
set_option maxHeartbeats 4000000
/-! PvB: the judgements by data: expressions, fresh objects, tests, walks, statements. -/
namespace Pv
open PySem PySem.Spec L2

section
variable {X : Cx} {e : Expr}
/-- an expression that gives data -/
def RE (X : Cx) (e : Expr) (f : Ev → Option (D × Ev)) : Prop :=
  ∃ t, PE X e t ∧ ∀ (Y : Ent) (σ : L2.St) (H G : Hp) (α : Ev) (d : D) (α' : Ev) (Q : VK), SR X.K Y G H σ α → f α = some (d, α') →
    (∀ v G' H', SR X.K Y G' H' σ α' → Same G G' → Im X.K G' v d → Q v H') → t σ H Q
/-- an expression that makes a new object -/
def RF (X : Cx) (e : Expr) (f : Ev → Option (C × Ev)) : Prop :=
  ∃ t, PE X e t ∧ ∀ (Y : Ent) (σ : L2.St) (H G : Hp) (α : Ev) (c : C) (α' : Ev) (Q : VK), SR X.K Y G H σ α → f α = some (c, α') →
    (∀ p o G' H', SR X.K Y G' H' σ α' → Same G G' → H' p = some o → RepC X.K G' o c → Loose Y G' H' σ α' p → Q (.ref p) H') → t σ H Q
/-- a test -/
def RT (X : Cx) (e : Expr) (f : Ev → Option (Bool × Ev)) : Prop :=
  ∃ t, PT X e t ∧ ∀ (Y : Ent) (σ : L2.St) (H G : Hp) (α : Ev) (b : Bool) (α' : Ev) (Q : Bool → Hp → Prop), SR X.K Y G H σ α → f α = some (b, α') →
    (∀ G' H', SR X.K Y G' H' σ α' → Same G G' → Q b H') → t σ H Q
/-- arguments from the left -/
def RA (X : Cx) (es : List Expr) (f : Ev → Option (List D × Ev)) : Prop :=
  ∃ t, PA X es t ∧ ∀ (Y : Ent) (σ : L2.St) (H G : Hp) (α : Ev) (ds : List D) (α' : Ev) (Q : List V → Hp → Prop), SR X.K Y G H σ α → f α = some (ds, α') →
    (∀ vs G' H', SR X.K Y G' H' σ α' → Same G G' → Ims X.K G' vs ds → Q vs H') → t σ H Q

/-! ### how a value is put together -/
def cPure (d : D) : Ev → Option (D × Ev) := fun α => some (d, α)
def cVar (i : Nat) : Ev → Option (D × Ev) := fun α => match α[i]? with
  | some (.im d) => some (d, α)
  | _ => none
def cOp (g : D → D → Option D) (fa fb : Ev → Option (D × Ev)) : Ev → Option (D × Ev) := fun α =>
  (fa α).bind fun p => (fb p.2).bind fun q => (g p.1 q.1).bind fun d => some (d, q.2)
def cUn (g : D → Option D) (fa : Ev → Option (D × Ev)) : Ev → Option (D × Ev) := fun α =>
  (fa α).bind fun p => (g p.1).bind fun d => some (d, p.2)
def asBool : D → Option Bool
  | .bool b => some b
  | _ => none
def cT (fa : Ev → Option (D × Ev)) : Ev → Option (Bool × Ev) := fun α => (fa α).bind fun p => (asBool p.1).bind fun b => some (b, p.2)
theorem bind_some {α β : Type} {x : Option α} {f : α → Option β} {b : β} (h : x.bind f = some b) : ∃ a, x = some a ∧ f a = some b := by
  cases x with
  | none => cases h
  | some a => exact ⟨a, rfl, h⟩

theorem re_pure {d : D} {v : V} (h : PE X e (tC v)) (hv : ∀ G, Im X.K G v d) : RE X e (cPure d) :=
  ⟨_, h, fun Y σ H G α d' α' Q S hf hQ => by cases hf; exact hQ v G H S (Same.refl G) (hv G)⟩
theorem re_int {i : Int} {j pos} : RE X (.Constant (.int i) j pos) (cPure (.int i)) := re_pure pe_int fun _ => .int i
theorem re_bl {b : Bool} {j pos} : RE X (.Constant (.bool b) j pos) (cPure (.bool b)) := re_pure pe_bl fun _ => .bl b
theorem re_non {j pos} : RE X (.Constant .none j pos) (cPure .none) := re_pure pe_non fun _ => .non
theorem re_str {x : Str} {j pos} : RE X (.Constant (.str x) j pos) (cPure (.str x)) := re_pure pe_str fun _ => .str x
theorem re_var (i : Nat) {x : Str} {pos : Pos} (hN : X.N[i]? = some x := by rfl) (hv : Vis X.env.scope x := by first | exact Or.inl rfl | exact Or.inr (Or.inl rfl) | exact Or.inr (Or.inr rfl)) (hd : (x == ("__debug__" : Str)) = false := by decide)
    (hcd : (x == ("__classdict__" : Str)) = false := by decide) : RE X (.Name x pos) (cVar i) := by
  refine ⟨_, pe_var hN hv hd hcd, fun Y σ H G α d α' Q S hf hQ => ?_⟩
  unfold cVar at hf
  split at hf
  · rename_i d' e
    cases hf
    obtain ⟨v, h1, h2⟩ := S.im i _ e
    exact ⟨v, h1, hQ v G H S (Same.refl G) h2⟩
  · cases hf
/-- a value's rule by data: the values rule r asks no more than that g gives d -/
def OpD (X : Cx) (r : R2) (g : D → D → Option D) : Prop :=
  ∀ (Y : Ent) (σ : L2.St) (H G : Hp) (α : Ev) (a b d : D) (x y : V) (Q : VK), SR X.K Y G H σ α → Im X.K G x a → Im X.K G y b → g a b = some d →
    (∀ v G' H', SR X.K Y G' H' σ α → Same G G' → Im X.K G' v d → Q v H') → r x y H Q
theorem OpD.or {r r' : R2} {g g' : D → D → Option D} (h : OpD X r g) (h' : OpD X r' g') : OpD X (fun x y H Q => r x y H Q ∨ r' x y H Q) (fun a b => (g a b).or (g' a b)) :=
  fun Y σ H G α a b d x y Q S ha hb hg hQ => by
    cases q : g a b with
    | some z =>
      simp only [q, Option.some_or] at hg
      exact .inl (h Y σ H G α a b d x y Q S ha hb (q.trans hg) hQ)
    | none =>
      simp only [q, Option.none_or] at hg
      exact .inr (h' Y σ H G α a b d x y Q S ha hb hg hQ)
theorem two_run {a b : Expr} {fa fb : Ev → Option (D × Ev)} {ta tb : TE}
    (ha : ∀ (Y : Ent) (σ : L2.St) (H G : Hp) (α : Ev) (d : D) (α' : Ev) (Q : VK), SR X.K Y G H σ α → fa α = some (d, α') → (∀ v G' H', SR X.K Y G' H' σ α' → Same G G' → Im X.K G' v d → Q v H') → ta σ H Q)
    (hb : ∀ (Y : Ent) (σ : L2.St) (H G : Hp) (α : Ev) (d : D) (α' : Ev) (Q : VK), SR X.K Y G H σ α → fb α = some (d, α') → (∀ v G' H', SR X.K Y G' H' σ α' → Same G G' → Im X.K G' v d → Q v H') → tb σ H Q)
    {Y : Ent} {σ : L2.St} {H G : Hp} {α α1 α2 : Ev} {d1 d2 : D} {R : V → V → Hp → Prop} (S : SR X.K Y G H σ α) (h1 : fa α = some (d1, α1)) (h2 : fb α1 = some (d2, α2))
    (k : ∀ x y G' H', SR X.K Y G' H' σ α2 → Same G G' → Im X.K G' x d1 → Im X.K G' y d2 → R x y H') : ta σ H fun x H1 => tb σ H1 fun y H2 => R x y H2 :=
  ha Y σ H G α d1 α1 _ S h1 fun x G1 H1 S1 s1 r1 => hb Y σ H1 G1 α1 d2 α2 _ S1 h2 fun y G2 H2 S2 s2 r2 => k x y G2 H2 S2 (s1.trans s2) (Im.mono s2 _ _ r1) r2
theorem re_op {op : Operator} {r : R2} {g : D → D → Option D} {a b : Expr} {fa fb : Ev → Option (D × Ev)} {pos : Pos} (ho : OpR X (binaryOp op) r) (hg : OpD X r g) (ha : RE X a fa) (hb : RE X b fb) : RE X (.BinOp a op b pos) (cOp g fa fb) := by
  obtain ⟨ta, pa, ka⟩ := ha
  obtain ⟨tb, pb, kb⟩ := hb
  refine ⟨_, pe_op ho pa pb, fun Y σ H G α d α' Q S hf hQ => ?_⟩
  obtain ⟨⟨d1, α1⟩, h1, hf⟩ := bind_some hf
  obtain ⟨⟨d2, α2⟩, h2, hf⟩ := bind_some hf
  obtain ⟨d3, h3, hf⟩ := bind_some hf
  cases hf
  exact two_run (a := a) (b := b) ka kb S h1 h2 fun x y G' H' S' s' rx ry => hg Y σ H' G' _ d1 d2 _ x y Q S' rx ry h3 fun v G2 H2 S2 s2 r2 => hQ v G2 H2 S2 (s'.trans s2) r2
theorem re_cmp {op : CmpOp} {r : R2} {g : D → D → Option D} {a b : Expr} {fa fb : Ev → Option (D × Ev)} {pos : Pos} (ho : OpR X (compareOp op) r) (hg : OpD X r g) (ha : RE X a fa) (hb : RE X b fb) (hm : behindInMarks op b = false) : RE X (.Compare a [op] [b] pos) (cOp g fa fb) := by
  obtain ⟨ta, pa, ka⟩ := ha
  obtain ⟨tb, pb, kb⟩ := hb
  refine ⟨_, pe_cmpR ho pa pb hm, fun Y σ H G α d α' Q S hf hQ => ?_⟩
  obtain ⟨⟨d1, α1⟩, h1, hf⟩ := bind_some hf
  obtain ⟨⟨d2, α2⟩, h2, hf⟩ := bind_some hf
  obtain ⟨d3, h3, hf⟩ := bind_some hf
  cases hf
  exact two_run (a := a) (b := b) ka kb S h1 h2 fun x y G' H' S' s' rx ry => hg Y σ H' G' _ d1 d2 _ x y Q S' rx ry h3 fun v G2 H2 S2 s2 r2 => hQ v G2 H2 S2 (s'.trans s2) r2
theorem rt_cmp {op : CmpOp} {r : R2} {g : D → D → Option D} {a b : Expr} {fa fb : Ev → Option (D × Ev)} {pos : Pos} (ho : OpR X (compareOp op) r) (hg : OpD X r g) (ha : RE X a fa) (hb : RE X b fb) (hm : behindInMarks op b = false) : RT X (.Compare a [op] [b] pos) (cT (cOp g fa fb)) := by
  obtain ⟨ta, pa, ka⟩ := ha
  obtain ⟨tb, pb, kb⟩ := hb
  refine ⟨_, pt_cmpR ho pa pb hm, fun Y σ H G α d α' Q S hf hQ => ?_⟩
  obtain ⟨⟨d0, α0⟩, h0, hf⟩ := bind_some hf
  obtain ⟨b0, e0, hf⟩ := bind_some hf
  cases hf
  obtain ⟨⟨d1, α1⟩, h1, hf⟩ := bind_some h0
  obtain ⟨⟨d2, α2⟩, h2, hf⟩ := bind_some hf
  obtain ⟨d3, h3, hf⟩ := bind_some hf
  cases hf
  refine two_run (a := a) (b := b) ka kb S h1 h2 fun x y G' H' S' s' rx ry => hg Y σ H' G' _ d1 d2 _ x y _ S' rx ry h3 fun v G2 H2 S2 s2 r2 => ?_
  have e0 : asBool d0 = some d := e0
  cases d0 <;> first | (cases e0; done) | skip
  case bool k =>
    cases e0
    cases r2
    exact ⟨_, rfl, hQ G2 H2 S2 (s'.trans s2)⟩
/-- an expression whose value is True or False, as a test -/
theorem rt_val {f : Ev → Option (D × Ev)} (h : RE X e f) (he : ∀ whole, isTrue e X.env whole = (do let v ← whole; standAt e.pos; holding [v] (truthy v)) := by intro _; rfl) : RT X e (cT f) := by
  obtain ⟨t, p, k⟩ := h
  refine ⟨_, pt_val p he, fun Y σ H G α b α' Q S hf hQ => ?_⟩
  obtain ⟨⟨d1, α1⟩, h1, hf⟩ := bind_some hf
  obtain ⟨b0, e0, hf⟩ := bind_some hf
  cases hf
  refine k Y σ H G α d1 α1 _ S h1 fun v G2 H2 S2 s2 r2 => ?_
  have e0 : asBool d1 = some b := e0
  cases d1 <;> first | (cases e0; done) | skip
  case bool k =>
    cases e0
    cases r2
    exact ⟨_, rfl, hQ G2 H2 S2 s2⟩
/-- the truth of data -/
def truD : D → Option Bool
  | .none => some false
  | .bool b => some b
  | .int i => some (i != 0)
  | .str x => if x.length ≤ sizeLine then some (x.length != 0) else none
  | .list xs => some (!xs.isEmpty)
  | .tuple xs => some (!xs.isEmpty)
  | .dict _ => none
def cTr (fa : Ev → Option (D × Ev)) : Ev → Option (Bool × Ev) := fun α => (fa α).bind fun p => (truD p.1).bind fun b => some (b, p.2)

/-! ### and, or, not, if else -/
def cAnd (fa fb : Ev → Option (Bool × Ev)) : Ev → Option (Bool × Ev) := fun α => (fa α).bind fun p => if p.1 = true then fb p.2 else some (false, p.2)
def cOr (fa fb : Ev → Option (Bool × Ev)) : Ev → Option (Bool × Ev) := fun α => (fa α).bind fun p => if p.1 = true then some (true, p.2) else fb p.2
def cNot (fa : Ev → Option (Bool × Ev)) : Ev → Option (Bool × Ev) := fun α => (fa α).bind fun p => some (!p.1, p.2)
def cIf {β : Type} (fc : Ev → Option (Bool × Ev)) (fa fb : Ev → Option β) : Ev → Option β := fun α => (fc α).bind fun p => if p.1 = true then fa p.2 else fb p.2
/-- a chain of and, or as a test -/
def RW (X : Cx) (e : Expr) (f : Ev → Option (Bool × Ev)) : Prop :=
  ∃ t, PW X e t ∧ ∀ (Y : Ent) (σ : L2.St) (H G : Hp) (α : Ev) (b : Bool) (α' : Ev) (Q : Bool → Hp → Prop), SR X.K Y G H σ α → f α = some (b, α') →
    (∀ G' H', SR X.K Y G' H' σ α' → Same G G' → Q b H') → t σ H Q
theorem RW.rt {f : Ev → Option (Bool × Ev)} (h : RW X e f) : RT X e f := by
  obtain ⟨t, p, k⟩ := h
  exact ⟨t, p.pt, k⟩
variable {a b : Expr} {rest : List Expr} {pos : Pos} {ga gb : Ev → Option (Bool × Ev)}
theorem rw_and1 (ha : RT X a ga) : RW X (.BoolOp .And [a] pos) ga := by
  obtain ⟨t, p, k⟩ := ha
  exact ⟨t, pw_and1 p, k⟩
theorem rw_or1 (ha : RT X a ga) : RW X (.BoolOp .Or [a] pos) ga := by
  obtain ⟨t, p, k⟩ := ha
  exact ⟨t, pw_or1 p, k⟩
theorem rw_and (ha : RT X a ga) (hb : RW X (.BoolOp .And (b :: rest) pos) gb) : RW X (.BoolOp .And (a :: b :: rest) pos) (cAnd ga gb) := by
  obtain ⟨t, p, k⟩ := ha
  obtain ⟨u, q, l⟩ := hb
  refine ⟨_, pw_and p q, fun Y σ H G α c α' Q S hf hQ => ?_⟩
  obtain ⟨⟨b1, α1⟩, h1, hf⟩ := bind_some hf
  refine k Y σ H G α b1 α1 _ S h1 fun G1 H1 S1 s1 => ?_
  cases b1 with
  | true => rw [if_pos rfl] at hf ⊢; exact l Y σ H1 G1 α1 c α' Q S1 hf fun G2 H2 S2 s2 => hQ G2 H2 S2 (s1.trans s2)
  | false => rw [if_neg Bool.false_ne_true] at hf ⊢; cases hf; exact hQ G1 H1 S1 s1
theorem rw_or (ha : RT X a ga) (hb : RW X (.BoolOp .Or (b :: rest) pos) gb) : RW X (.BoolOp .Or (a :: b :: rest) pos) (cOr ga gb) := by
  obtain ⟨t, p, k⟩ := ha
  obtain ⟨u, q, l⟩ := hb
  refine ⟨_, pw_or p q, fun Y σ H G α c α' Q S hf hQ => ?_⟩
  obtain ⟨⟨b1, α1⟩, h1, hf⟩ := bind_some hf
  refine k Y σ H G α b1 α1 _ S h1 fun G1 H1 S1 s1 => ?_
  cases b1 with
  | true => rw [if_pos rfl] at hf ⊢; cases hf; exact hQ G1 H1 S1 s1
  | false => rw [if_neg Bool.false_ne_true] at hf ⊢; exact l Y σ H1 G1 α1 c α' Q S1 hf fun G2 H2 S2 s2 => hQ G2 H2 S2 (s1.trans s2)
theorem rt_not (ha : RT X a ga) : RT X (.UnaryOp .Not a pos) (cNot ga) := by
  obtain ⟨t, p, k⟩ := ha
  refine ⟨_, pt_not p, fun Y σ H G α c α' Q S hf hQ => ?_⟩
  obtain ⟨⟨b1, α1⟩, h1, hf⟩ := bind_some hf
  cases hf
  exact k Y σ H G α b1 α1 _ S h1 fun G1 H1 S1 s1 => hQ G1 H1 S1 s1
theorem re_ifExp {c : Expr} {fa fb : Ev → Option (D × Ev)} (hc : RT X c ga) (ha : RE X a fa) (hb : RE X b fb) : RE X (.IfExp c a b pos) (cIf ga fa fb) := by
  obtain ⟨t, p, k⟩ := hc
  obtain ⟨ta, pa, ka⟩ := ha
  obtain ⟨tb, pb, kb⟩ := hb
  refine ⟨_, pe_ifExp p pa pb, fun Y σ H G α d α' Q S hf hQ => ?_⟩
  obtain ⟨⟨b1, α1⟩, h1, hf⟩ := bind_some hf
  refine k Y σ H G α b1 α1 _ S h1 fun G1 H1 S1 s1 => ?_
  cases b1 with
  | true => rw [if_pos rfl] at hf ⊢; exact ka Y σ H1 G1 α1 d α' Q S1 hf fun v G2 H2 S2 s2 => hQ v G2 H2 S2 (s1.trans s2)
  | false => rw [if_neg Bool.false_ne_true] at hf ⊢; exact kb Y σ H1 G1 α1 d α' Q S1 hf fun v G2 H2 S2 s2 => hQ v G2 H2 S2 (s1.trans s2)
end
section
variable {X : Cx} {e : Expr} {es : List Expr} {pos : Pos}
/-! ### and, or as values (True, False in all places but the last) -/
/-- the values of a chain -/
def RB (X : Cx) (op : BoolOp) (es : List Expr) (pos : Pos) (f : Ev → Option (D × Ev)) : Prop := RE X (.BoolOp op es pos) f

/-! ### arguments, displays -/
def cANil : Ev → Option (List D × Ev) := fun α => some ([], α)
def cACons (fa : Ev → Option (D × Ev)) (fr : Ev → Option (List D × Ev)) : Ev → Option (List D × Ev) := fun α =>
  (fa α).bind fun p => (fr p.2).bind fun q => some (p.1 :: q.1, q.2)
theorem ra_nil : RA X [] cANil := ⟨_, pa_nil, fun Y σ H G α ds α' Q S hf hQ => by cases hf; exact hQ [] G H S (Same.refl G) .nil⟩
theorem ra_cons {fa : Ev → Option (D × Ev)} {fr : Ev → Option (List D × Ev)} (ha : RE X e fa) (hr : RA X es fr) (hs : starEach (e :: es) X.env = (false, eval e X.env) :: starEach es X.env := by rfl) : RA X (e :: es) (cACons fa fr) := by
  obtain ⟨t, p, k⟩ := ha
  obtain ⟨u, q, l⟩ := hr
  refine ⟨_, pa_cons p q hs, fun Y σ H G α ds α' Q S hf hQ => ?_⟩
  obtain ⟨⟨d1, α1⟩, h1, hf⟩ := bind_some hf
  obtain ⟨⟨d2, α2⟩, h2, hf⟩ := bind_some hf
  cases hf
  exact k Y σ H G α d1 α1 _ S h1 fun v G1 H1 S1 s1 r1 => l Y σ H1 G1 α1 d2 _ _ S1 h2 fun vs G2 H2 S2 s2 r2 => hQ (v :: vs) G2 H2 S2 (s1.trans s2) (.cons (Im.mono s2 _ _ r1) r2)
def cTup (f : Ev → Option (List D × Ev)) : Ev → Option (D × Ev) := fun α => (f α).bind fun p => if p.1.length ≤ sizeLine then some (.tuple p.1, p.2) else none
def cLst (f : Ev → Option (List D × Ev)) : Ev → Option (C × Ev) := fun α => (f α).bind fun p => if p.1.length ≤ sizeLine then some (.lst p.1, p.2) else none
theorem re_tup {f : Ev → Option (List D × Ev)} {x1 : Nat} (h : RA X es f) : RE X (.Tuple es x1 pos) (cTup f) := by
  obtain ⟨t, p, k⟩ := h
  refine ⟨_, pe_tup p, fun Y σ H G α d α' Q S hf hQ => ?_⟩
  obtain ⟨⟨ds, α1⟩, h1, hf⟩ := bind_some hf
  split at hf
  · rename_i hz
    cases hf
    refine k Y σ H G α ds _ _ S h1 fun vs G1 H1 S1 s1 r1 => ⟨by rw [r1.length]; exact hz, fun q hq => ?_⟩
    refine hQ _ _ _ (S1.cold (o := .tup vs) hq) (s1.trans (S1.sameG hq)) (.tup (.inl (.inl upd_same)) (Ims.mono (S1.sameG hq) _ _ r1))
  · cases hf
theorem rf_lst {f : Ev → Option (List D × Ev)} (h : RA X es f) : RF X (.List es pos) (cLst f) := by
  obtain ⟨t, p, k⟩ := h
  refine ⟨_, pe_lst p, fun Y σ H G α d α' Q S hf hQ => ?_⟩
  obtain ⟨⟨ds, α1⟩, h1, hf⟩ := bind_some hf
  split at hf
  · rename_i hz
    cases hf
    refine k Y σ H G α ds _ _ S h1 fun vs G1 H1 S1 s1 r1 => ⟨by rw [r1.length]; exact hz, fun q hq => ?_⟩
    exact hQ q (.lst vs) G1 _ (S1.raw hq) s1 upd_same r1 ((S1.loose hq) |> fun l => ⟨l.g, l.h0, l.no⟩)
  · cases hf
/-- a new list, read only from then on -/
def cFrz (f : Ev → Option (C × Ev)) : Ev → Option (D × Ev) := fun α => (f α).bind fun p => match p.1 with
  | .lst ds => some (.list ds, p.2)
  | _ => none
theorem re_frz {f : Ev → Option (C × Ev)} (h : RF X e f) : RE X e (cFrz f) := by
  obtain ⟨t, p, k⟩ := h
  refine ⟨t, p, fun Y σ H G α d α' Q S hf hQ => ?_⟩
  obtain ⟨⟨c, α1⟩, h1, hf⟩ := bind_some hf
  cases c with
  | lst ds =>
    cases hf
    refine k Y σ H G α _ _ _ S h1 fun q o G1 H1 S1 s1 e1 r1 l1 => ?_
    cases o <;> first | exact r1.elim | skip
    case lst vs =>
      have s2 : Same G1 (upd G1 q (.lst vs)) := Pv.same_upd l1.g
      exact hQ _ _ _ (S1.freeze e1 l1) (s1.trans s2) (.lst (.inl (.inl upd_same)) (Ims.mono s2 _ _ r1))
  | dct kvs => cases hf
end
end Pv
set_option maxHeartbeats 4000000
/-! PvC: statements, targets, walks, loops, comprehensions, by data. -/
namespace Pv
open PySem PySem.Spec L2

inductive Out where
  | nx (α : Ev)
  | bk (α : Ev)
  | ct (α : Ev)
  | rt (d : D) (α : Ev)

def OutOk (K : Fg) (Y : Ent) (G : Hp) (Dn : Ends) : Out → Prop
  | .nx α' => ∀ σ' G' H', SR K Y G' H' σ' α' → Same G G' → Dn.nx σ' H'
  | .bk α' => ∀ σ' G' H', SR K Y G' H' σ' α' → Same G G' → Dn.bk σ' H'
  | .ct α' => ∀ σ' G' H', SR K Y G' H' σ' α' → Same G G' → Dn.ct σ' H'
  | .rt d α' => ∀ v σ' G' H', SR K Y G' H' σ' α' → Same G G' → Im K G' v d → Dn.rt v H'
theorem OutOk.later {K : Fg} {Y : Ent} {G G' : Hp} {Dn : Ends} {o : Out} (h : OutOk K Y G Dn o) (s : Same G G') : OutOk K Y G' Dn o := by
  cases o with
  | nx α => exact fun σ' G2 H2 S s2 => h σ' G2 H2 S (s.trans s2)
  | bk α => exact fun σ' G2 H2 S s2 => h σ' G2 H2 S (s.trans s2)
  | ct α => exact fun σ' G2 H2 S s2 => h σ' G2 H2 S (s.trans s2)
  | rt d α => exact fun v σ' G2 H2 S s2 => h v σ' G2 H2 S (s.trans s2)
def Bor (Y : Ent) (bor : List Nat) : Prop := ∀ i a, Y.π i = some a → i ∈ bor
theorem Bor.free {Y : Ent} {bor : List Nat} (h : Bor Y bor) {i : Nat} (hi : i ∉ bor) : ∀ a, Y.π i ≠ some a := fun a e => hi (h i a e)

def RS (X : Cx) (bor : List Nat) (st : Stmt) (g : Ev → Option Out) : Prop :=
  ∃ t, PS X st t ∧ ∀ (Y : Ent) (σ : L2.St) (H G : Hp) (α : Ev) (o : Out) (Dn : Ends), Bor Y bor → SR X.K Y G H σ α → g α = some o → OutOk X.K Y G Dn o → t Dn σ H
def RSs (X : Cx) (bor : List Nat) (sts : List Stmt) (g : Ev → Option Out) : Prop :=
  ∃ t, PSs X sts t ∧ ∀ (Y : Ent) (σ : L2.St) (H G : Hp) (α : Ev) (o : Out) (Dn : Ends), Bor Y bor → SR X.K Y G H σ α → g α = some o → OutOk X.K Y G Dn o → t Dn σ H

def sSkip : Ev → Option Out := fun α => some (.nx α)
def sSeq (g h : Ev → Option Out) : Ev → Option Out := fun α => (g α).bind fun o => match o with
  | .nx α' => h α'
  | o => some o
section
variable {X : Cx} {bor : List Nat} {st : Stmt} {sts : List Stmt} {g h : Ev → Option Out} {e : Expr} {pos : Pos}
theorem rss_nil : RSs X bor [] sSkip := ⟨_, pss_nil, fun Y σ H G α o Dn hb S hf hQ => by cases hf; exact hQ σ G H S (Same.refl G)⟩
theorem rss_cons (hs : RS X bor st g) (hr : RSs X bor sts h) : RSs X bor (st :: sts) (sSeq g h) := by
  obtain ⟨t, p, k⟩ := hs
  obtain ⟨u, q, l⟩ := hr
  refine ⟨_, pss_cons p q, fun Y σ H G α o Dn hb S hf hQ => ?_⟩
  obtain ⟨o1, h1, hf⟩ := bind_some hf
  refine k Y σ H G α o1 _ hb S h1 ?_
  cases o1 with
  | nx α1 => exact fun σ' G' H' S' s' => l Y σ' H' G' α1 o Dn hb S' hf (hQ.later s')
  | bk α1 => cases hf; exact hQ
  | ct α1 => cases hf; exact hQ
  | rt d α1 => cases hf; exact hQ
theorem rss_one (hs : RS X bor st g) : RSs X bor [st] g := by
  obtain ⟨t, p, k⟩ := hs
  exact ⟨t, pss_one p, k⟩
theorem rs_pass : RS X bor (.Pass pos) sSkip := ⟨_, ps_pass, fun Y σ H G α o Dn hb S hf hQ => by cases hf; exact hQ σ G H S (Same.refl G)⟩
def sBreak : Ev → Option Out := fun α => some (.bk α)
def sCont : Ev → Option Out := fun α => some (.ct α)
def sNever : Ev → Option Out := fun _ => none
theorem rs_break : RS X bor (.Break pos) sBreak := ⟨_, ps_break, fun Y σ H G α o Dn hb S hf hQ => by cases hf; exact hQ σ G H S (Same.refl G)⟩
theorem rs_continue : RS X bor (.Continue pos) sCont := ⟨_, ps_continue, fun Y σ H G α o Dn hb S hf hQ => by cases hf; exact hQ σ G H S (Same.refl G)⟩
theorem rs_never : RS X bor st sNever := ⟨_, ps_never, fun Y σ H G α o Dn hb S hf hQ => by cases hf⟩
theorem rss_never : RSs X bor sts sNever := ⟨_, pss_never, fun Y σ H G α o Dn hb S hf hQ => by cases hf⟩
def sRet (f : Ev → Option (D × Ev)) : Ev → Option Out := fun α => (f α).bind fun p => some (.rt p.1 p.2)
theorem rs_ret {f : Ev → Option (D × Ev)} (he : RE X e f) : RS X bor (.Return (some e) pos) (sRet f) := by
  obtain ⟨t, p, k⟩ := he
  refine ⟨_, ps_ret p, fun Y σ H G α o Dn hb S hf hQ => ?_⟩
  obtain ⟨⟨d, α1⟩, h1, hf⟩ := bind_some hf
  cases hf
  exact k Y σ H G α d α1 _ S h1 fun v G1 H1 S1 s1 r1 => hQ v σ G1 H1 S1 s1 r1
def sRetN : Ev → Option Out := fun α => some (.rt .none α)
theorem rs_retN : RS X bor (.Return none pos) sRetN := ⟨_, ps_retN, fun Y σ H G α o Dn hb S hf hQ => by cases hf; exact hQ .non σ G H S (Same.refl G) .non⟩
def sDrop (f : Ev → Option (D × Ev)) : Ev → Option Out := fun α => (f α).bind fun p => some (.nx p.2)
theorem rs_expr {f : Ev → Option (D × Ev)} (he : RE X e f) (hs : swapsWith e none pos.line X.env = pure false := by rfl) : RS X bor (.Expr e pos) (sDrop f) := by
  obtain ⟨t, p, k⟩ := he
  refine ⟨_, ps_expr p hs, fun Y σ H G α o Dn hb S hf hQ => ?_⟩
  obtain ⟨⟨d, α1⟩, h1, hf⟩ := bind_some hf
  cases hf
  exact k Y σ H G α d α1 _ S h1 fun v G1 H1 S1 s1 r1 => hQ σ G1 H1 S1 s1
theorem rs_if {c : Expr} {a b : List Stmt} {fc : Ev → Option (Bool × Ev)} (hc : RT X c fc) (ha : RSs X bor a g) (hb : RSs X bor b h) : RS X bor (.If c a b pos) (cIf fc g h) := by
  obtain ⟨t, p, k⟩ := hc
  obtain ⟨ta, pa, ka⟩ := ha
  obtain ⟨tb, pb, kb⟩ := hb
  refine ⟨_, ps_if p pa pb, fun Y σ H G α o Dn hb' S hf hQ => ?_⟩
  obtain ⟨⟨b1, α1⟩, h1, hf⟩ := bind_some hf
  refine k Y σ H G α b1 α1 _ S h1 fun G1 H1 S1 s1 => ?_
  cases b1 with
  | true => rw [if_pos rfl] at hf ⊢; exact ka Y σ H1 G1 α1 o Dn hb' S1 hf (hQ.later s1)
  | false => rw [if_neg Bool.false_ne_true] at hf ⊢; exact kb Y σ H1 G1 α1 o Dn hb' S1 hf (hQ.later s1)
end

/-! ### targets -/
theorem wipe_cons (σ : L2.St) (v : Nat) (vs : List Nat) : wipe σ (v :: vs) = (wipe σ vs).set v none := rfl
theorem wipe_get {σ : L2.St} {i : Nat} : ∀ {vs : List Nat}, i ∉ vs → (wipe σ vs)[i]? = σ[i]?
  | [], _ => rfl
  | v :: vs, h => by
    have h1 : v ≠ i := fun e => h (e ▸ List.mem_cons_self)
    rw [wipe_cons, List.getElem?_set_ne h1]
    exact wipe_get fun k => h (List.mem_cons_of_mem _ k)
theorem wipe_in {σ : L2.St} {i : Nat} : ∀ {vs : List Nat}, i ∈ vs → (wipe σ vs)[i]? = (if i < σ.length then some none else none)
  | v :: vs, h => by
    rw [wipe_cons]
    by_cases hv : v = i
    · subst hv
      rw [List.getElem?_set, if_pos rfl, wipe_length]
    · rw [List.getElem?_set_ne hv]
      exact wipe_in ((List.mem_cons.mp h).resolve_left fun e => hv e.symm)
theorem wipe_eq {σ τ : L2.St} {vs : List Nat} (hl : τ.length = σ.length) (h : ∀ i, i ∉ vs → τ[i]? = σ[i]?) : wipe τ vs = wipe σ vs := by
  refine List.ext_getElem? fun i => ?_
  by_cases hi : i ∈ vs
  · rw [wipe_in hi, wipe_in hi, hl]
  · rw [wipe_get hi, wipe_get hi, h i hi]
/-- what a target stores: only at vs -/
def RGt (X : Cx) (tg : Expr) (vs : List Nat) (g : D → Ev → Option Ev) : Prop :=
  ∃ t, PG X tg t ∧ ∀ (Y : Ent) (σ : L2.St) (H G : Hp) (α α' : Ev) (d : D) (v : V) (Q : L2.St → Hp → Prop), SR X.K Y G H σ α → Im X.K G v d → g d α = some α' →
    (∀ σ', SR X.K Y G H σ' α' → σ'.length = σ.length → (∀ i, i ∉ vs → σ'[i]? = σ[i]?) → Q σ' H) → t v σ H Q
def RGs (X : Cx) (ts : List Expr) (vs : List Nat) (g : List D → Ev → Option Ev) : Prop :=
  ∃ t, PGs X ts t ∧ ∀ (Y : Ent) (σ : L2.St) (H G : Hp) (α α' : Ev) (ds : List D) (us : List V) (Q : L2.St → Hp → Prop), SR X.K Y G H σ α → Ims X.K G us ds → g ds α = some α' →
    (∀ σ', SR X.K Y G H σ' α' → σ'.length = σ.length → (∀ i, i ∉ vs → σ'[i]? = σ[i]?) → Q σ' H) → t us σ H Q
def gNm (i : Nat) : D → Ev → Option Ev := fun d α => some (α.set i (.im d))
def gsNil : List D → Ev → Option Ev := fun ds α => match ds with
  | [] => some α
  | _ => none
def gsCons (g : D → Ev → Option Ev) (gs : List D → Ev → Option Ev) : List D → Ev → Option Ev := fun ds α => match ds with
  | d :: ds => (g d α).bind fun α1 => gs ds α1
  | [] => none
def gTp (n : Nat) (gs : List D → Ev → Option Ev) : D → Ev → Option Ev := fun d α => match d with
  | .tuple ds => if ds.length = n then gs ds α else none
  | _ => none
section
variable {X : Cx} {e : Expr} {es : List Expr} {pos : Pos}
theorem rg_name {i : Nat} {x : Str} (hN : X.N.Nodup) (hi : X.N[i]? = some x) (hx : Loc X.env.scope x) (hf : X.fn x = true ∨ X.env.scope.names.lookup x = some .local := by first | exact .inl rfl | exact .inr rfl | assumption) : RGt X (.Name x pos) [i] (gNm i) := by
  refine ⟨_, pg_name hN hi hx hf, fun Y σ H G α α' d v Q S r hf hQ => ?_⟩
  cases hf
  exact hQ _ (S.set_im r) (by rw [List.length_set]) fun j hj => by rw [List.getElem?_set_ne fun z => hj (by rw [z]; exact List.mem_singleton.mpr rfl)]
theorem rgs_nil : RGs X [] [] gsNil := ⟨_, pgs_nil, fun Y σ H G α α' ds us Q S r hf hQ => by
  cases r with
  | nil => cases hf; exact ⟨rfl, hQ σ S rfl fun _ _ => rfl⟩
  | cons _ _ => cases hf⟩
theorem rgs_cons {vs ws : List Nat} {g : D → Ev → Option Ev} {gs : List D → Ev → Option Ev} (h1 : RGt X e vs g) (h2 : RGs X es ws gs)
    (hs : (assignEach (e :: es) X.env).map (·.2) = assign e X.env :: (assignEach es X.env).map (·.2) := by rfl) : RGs X (e :: es) (vs ++ ws) (gsCons g gs) := by
  obtain ⟨t, p, k⟩ := h1
  obtain ⟨u, q, l⟩ := h2
  refine ⟨_, pgs_cons p q hs, fun Y σ H G α α' ds us Q S r hf hQ => ?_⟩
  cases r with
  | nil => cases hf
  | cons r1 r2 =>
    obtain ⟨α1, e1, hf⟩ := bind_some hf
    refine ⟨_, _, rfl, k Y σ H G α α1 _ _ _ S r1 e1 fun σ1 S1 l1 o1 => l Y σ1 H G α1 α' _ _ Q S1 r2 hf fun σ2 S2 l2 o2 => ?_⟩
    exact hQ σ2 S2 (l2.trans l1) fun i hi => (o2 i fun z => hi (List.mem_append_right _ z)).trans (o1 i fun z => hi (List.mem_append_left _ z))
theorem rg_tup {k : Nat} {n : Nat} {vs : List Nat} {gs : List D → Ev → Option Ev} (hc : X.calm = true) (h : RGs X es vs gs)
    (hn : (assignEach es X.env).length = n := by rfl) (hst : (assignEach es X.env).findIdx? (·.1) = none := by rfl) : RGt X (.Tuple es k pos) vs (gTp n gs) := by
  obtain ⟨t, p, l⟩ := h
  refine ⟨_, pg_tup hc p hn hst, fun Y σ H G α α' d v Q S r hf hQ => ?_⟩
  unfold gTp at hf
  split at hf
  · rename_i ds
    split at hf
    · rename_i hl
      cases r with
      | tup hs ha => exact ⟨_, _, rfl, seqT_mono S.le hs, (Ims.length ha).trans hl, l Y σ H G α α' ds _ Q S ha hf hQ⟩
    · cases hf
  · cases hf
/-- target = value -/
def sAsg (f : Ev → Option (D × Ev)) (g : D → Ev → Option Ev) : Ev → Option Out := fun α => (f α).bind fun p => (g p.1 p.2).bind fun α' => some (.nx α')
theorem rs_asg {bor : List Nat} {tg : Expr} {vs : List Nat} {f : Ev → Option (D × Ev)} {g : D → Ev → Option Ev} (he : RE X e f) (hg : RGt X tg vs g) (hs : swapsWithSole [tg] e pos.line X.env = pure false := by rfl) (hw : swappedStores [tg] e X.env = pure none := by rfl)
    (h1 : (assignEach [tg] X.env).map (·.2) = [assign tg X.env] := by rfl) : RS X bor (.Assign [tg] e pos) (sAsg f g) := by
  obtain ⟨t, p, k⟩ := he
  obtain ⟨u, q, l⟩ := hg
  refine ⟨_, ps_asg p q hs hw h1, fun Y σ H G α o Dn hb S hf hQ => ?_⟩
  obtain ⟨⟨d, α1⟩, e1, hf⟩ := bind_some hf
  obtain ⟨α2, e2, hf⟩ := bind_some hf
  cases hf
  exact k Y σ H G α d α1 _ S e1 fun v G1 H1 S1 s1 r1 => l Y σ H1 G1 α1 α2 d v _ S1 r1 e2 fun σ2 S2 _ _ => hQ σ2 G1 H1 S2 s1
/-- name = value -/
def sSet (i : Nat) (f : Ev → Option (D × Ev)) : Ev → Option Out := fun α => (f α).bind fun p => some (.nx (p.2.set i (.im p.1)))
theorem rs_set {bor : List Nat} {i : Nat} {x : Str} {f : Ev → Option (D × Ev)} {pos' : Pos} (hN : X.N.Nodup) (hi : X.N[i]? = some x) (hx : Loc X.env.scope x) (he : RE X e f) (hs : swapsWith e (some (.Name x pos')) pos.line X.env = pure false := by rfl) (hf : X.fn x = true ∨ X.env.scope.names.lookup x = some .local := by first | exact .inl rfl | exact .inr rfl | assumption) :
    RS X bor (.Assign [.Name x pos'] e pos) (sSet i f) := by
  obtain ⟨t, p, k⟩ := he
  refine ⟨_, ps_set hN hi hx p hs hf, fun Y σ H G α o Dn hb S hf hQ => ?_⟩
  obtain ⟨⟨d, α1⟩, e1, hf⟩ := bind_some hf
  cases hf
  exact k Y σ H G α d α1 _ S e1 fun v G1 H1 S1 s1 r1 => hQ _ G1 H1 (S1.set_im r1) s1
/-- name = a new object, owned by the name from then on -/
def sOwn (i : Nat) (f : Ev → Option (C × Ev)) : Ev → Option Out := fun α => (f α).bind fun p => some (.nx (p.2.set i (.own p.1)))
theorem rs_own {bor : List Nat} {i : Nat} {x : Str} {f : Ev → Option (C × Ev)} {pos' : Pos} (hN : X.N.Nodup) (hi : X.N[i]? = some x) (hx : Loc X.env.scope x) (he : RF X e f) (hib : i ∉ bor) (hs : swapsWith e (some (.Name x pos')) pos.line X.env = pure false := by rfl) (hf : X.fn x = true ∨ X.env.scope.names.lookup x = some .local := by first | exact .inl rfl | exact .inr rfl | assumption) :
    RS X bor (.Assign [.Name x pos'] e pos) (sOwn i f) := by
  obtain ⟨t, p, k⟩ := he
  refine ⟨_, ps_set hN hi hx p hs hf, fun Y σ H G α o Dn hb S hf hQ => ?_⟩
  obtain ⟨⟨c, α1⟩, e1, hf⟩ := bind_some hf
  cases hf
  exact k Y σ H G α c α1 _ S e1 fun q u G1 H1 S1 s1 e2 r1 l1 => hQ _ G1 H1 (S1.set_own (hb.free hib) e2 r1 l1) s1
/-- name op= value -/
def sAug (i : Nat) (g : D → D → Option D) (f : Ev → Option (D × Ev)) : Ev → Option Out := fun α => match α[i]? with
  | some (.im a) => (f α).bind fun p => (g a p.1).bind fun d => some (.nx (p.2.set i (.im d)))
  | _ => none
theorem rs_aug {bor : List Nat} {i : Nat} {x : Str} {op : Operator} {r : R2} {g : D → D → Option D} {f : Ev → Option (D × Ev)} {pos' : Pos} (hN : X.N.Nodup) (hi : X.N[i]? = some x) (hx : Loc X.env.scope x) (he : RE X e f)
    (ho : OpR X (inplaceOp op) r) (hg : OpD X r g) (hf : X.fn x = true ∨ X.env.scope.names.lookup x = some .local := by first | exact .inl rfl | exact .inr rfl | assumption) :
    RS X bor (.AugAssign (.Name x pos') op e pos) (sAug i g f) := by
  obtain ⟨t, p, k⟩ := he
  refine ⟨_, ps_aug (ti := r) hN hi hx p ho hf, fun Y σ H G α o Dn hb S hf hQ => ?_⟩
  unfold sAug at hf
  split at hf
  · rename_i a ea
    obtain ⟨v, h1, h2⟩ := S.im i a ea
    obtain ⟨⟨d, α1⟩, e1, hf⟩ := bind_some hf
    obtain ⟨d2, e2, hf⟩ := bind_some hf
    cases hf
    refine ⟨v, h1, k Y σ H G α d α1 _ S e1 fun u G1 H1 S1 s1 r1 => ?_⟩
    exact hg Y σ H1 G1 α1 a d d2 v u _ S1 (Im.mono s1 _ _ h2) r1 e2 fun z G2 H2 S2 s2 r2 => hQ _ G2 H2 (S2.set_im r2) (s1.trans s2)
  · cases hf
end

/-! ### walks -/
def Walk (K : Fg) (J : It) (P : L2.St → Ev → Prop) (G0 : Hp) (ds : List D) : Prop :=
  ∀ (Y : Ent) (i : Nat) (σ : L2.St) (G H : Hp) (α : Ev), SR K Y G H σ α → Same G0 G → P σ α →
    (ds[i]? = none → J.stop i H) ∧ ∀ d, ds[i]? = some d → J.go i H ∧ ∀ x H', J.yld i H x H' → ∃ G', SR K Y G' H' σ α ∧ Same G G' ∧ Im K G' x d
/-- what is walked is data -/
def RI (X : Cx) (tg iter : Expr) (f : Ev → Option (List D × Ev)) : Prop :=
  ∃ wi, PI X tg iter wi ∧ ∀ (Y : Ent) (σ : L2.St) (H G : Hp) (α : Ev) (ds : List D) (α' : Ev) (R : It → Hp → Prop), SR X.K Y G H σ α → f α = some (ds, α') →
    (∀ J G' H', SR X.K Y G' H' σ α' → Same G G' → Walk X.K J (fun _ _ => True) G' ds → R J H') → wi σ H R
def forL (tg : D → Ev → Option Ev) (body : Ev → Option Out) : List D → Ev → Option Out
  | [], α => some (.nx α)
  | d :: ds, α => (tg d α).bind fun α1 => (body α1).bind fun o => match o with
    | .nx α2 => forL tg body ds α2
    | .ct α2 => forL tg body ds α2
    | .bk α2 => some (.nx α2)
    | .rt d α2 => some (.rt d α2)
def sFor (f : Ev → Option (List D × Ev)) (tg : D → Ev → Option Ev) (body : Ev → Option Out) : Ev → Option Out := fun α => (f α).bind fun p => forL tg body p.1 p.2
theorem drop_cons {α : Type} {l : List α} {i : Nat} {x : α} (h : l[i]? = some x) : l.drop i = x :: l.drop (i + 1) := by
  obtain ⟨hi, e⟩ := List.getElem?_eq_some_iff.mp h
  rw [List.drop_eq_getElem_cons hi, e]
theorem rs_for {X : Cx} {bor : List Nat} {tg iter : Expr} {body : List Stmt} {vs : List Nat} {f : Ev → Option (List D × Ev)} {g : D → Ev → Option Ev} {b : Ev → Option Out} {pos : Pos} (hp : PassesOwn (model X.prog X.w) X.A X.env X.xe) (hc : X.calm = true)
    (hi : RI X tg iter f) (hg : RGt X tg vs g) (hb : RSs X bor body b) (hs : ∀ x, foldedSetIterable iter X.env x = pure x := by intro _; rfl) : RS X bor (.For tg iter body [] pos) (sFor f g b) := by
  obtain ⟨wi, pi, ki⟩ := hi
  obtain ⟨tg', pg, kg⟩ := hg
  obtain ⟨tb, pb, kb⟩ := hb
  refine ⟨_, ps_for hp hc pi pg pb hs, fun Y σ H G α o Dn hbor S hf hQ => ?_⟩
  obtain ⟨⟨ds, α1⟩, e1, hf⟩ := bind_some hf
  refine ki Y σ H G α ds α1 _ S e1 fun J G1 H1 S1 s1 hw => ?_
  refine ⟨fun i m σ2 H2 => m = ds.length - i ∧ i ≤ ds.length ∧ ∃ G2 α2, SR X.K Y G2 H2 σ2 α2 ∧ Same G1 G2 ∧ forL g b (ds.drop i) α2 = some o, ⟨ds.length, by simp, Nat.zero_le _, G1, α1, S1, Same.refl G1, hf⟩, ?_⟩
  rintro i m σ2 H2 ⟨rfl, hi, G2, α2, S2, s2, hf2⟩
  obtain ⟨hstop, hgo⟩ := hw Y i σ2 G2 H2 α2 S2 s2 trivial
  cases hd : ds[i]? with
  | none =>
    have hlen : ds.length ≤ i := List.getElem?_eq_none_iff.mp hd
    rw [List.drop_eq_nil_of_le hlen] at hf2
    have e : some (Out.nx α2) = some o := hf2
    cases e
    exact .inl ⟨hstop hd, hQ σ2 G2 H2 S2 (s1.trans s2)⟩
  | some d =>
    have hlen : i < ds.length := (List.getElem?_eq_some_iff.mp hd).1
    obtain ⟨go, yld⟩ := hgo d hd
    refine .inr ⟨go, fun σ3 H3 => ∃ G3 α3, SR X.K Y G3 H3 σ3 α3 ∧ Same G1 G3 ∧ forL g b (ds.drop (i + 1)) α3 = some o, fun σ3 H3 ⟨G3, α3, S3, s3, hf3⟩ => ⟨_, by omega, rfl, hlen, G3, α3, S3, s3, hf3⟩, fun x H3 hy => ?_⟩
    obtain ⟨G3, S3, s3, r3⟩ := yld x H3 hy
    rw [drop_cons hd] at hf2
    obtain ⟨α4, e4, hf4⟩ := bind_some hf2
    obtain ⟨o5, e5, hf5⟩ := bind_some hf4
    refine kg Y σ2 H3 G3 α2 α4 d x _ S3 r3 e4 fun σ4 S4 _ _ => kb Y σ4 H3 G3 α4 o5 _ hbor S4 e5 ?_
    have s13 : Same G1 G3 := s2.trans s3
    cases o5 with
    | nx α6 => exact fun σ6 G6 H6 S6 s6 => ⟨G6, α6, S6, s13.trans s6, hf5⟩
    | ct α6 => exact fun σ6 G6 H6 S6 s6 => ⟨G6, α6, S6, s13.trans s6, hf5⟩
    | bk α6 => cases hf5; exact hQ.later (s1.trans s13)
    | rt d6 α6 => cases hf5; exact hQ.later (s1.trans s13)

/-! ### while -/
def whileL (c : Ev → Option (Bool × Ev)) (body : Ev → Option Out) : Nat → Ev → Option Out
  | 0, _ => none
  | n + 1, α => (c α).bind fun p => if p.1 = true then (body p.2).bind fun o => match o with
      | .nx α2 => whileL c body n α2
      | .ct α2 => whileL c body n α2
      | .bk α2 => some (.nx α2)
      | .rt d α2 => some (.rt d α2)
    else some (.nx p.2)
/-- fuel by the state -/
def sWhile (μ : Ev → Nat) (c : Ev → Option (Bool × Ev)) (body : Ev → Option Out) : Ev → Option Out := fun α => whileL c body (μ α) α
theorem rs_while {X : Cx} {bor : List Nat} {c : Expr} {body : List Stmt} {fc : Ev → Option (Bool × Ev)} {b : Ev → Option Out} {pos : Pos} (μ : Ev → Nat) (hp : PassesOwn (model X.prog X.w) X.A X.env X.xe) (hc : RT X c fc) (hb : RSs X bor body b) : RS X bor (.While c body [] pos) (sWhile μ fc b) := by
  obtain ⟨tc, pc, kc⟩ := hc
  obtain ⟨tb, pb, kb⟩ := hb
  refine ⟨_, ps_while hp pc pb, fun Y σ H G α o Dn hbor S hf hQ => ?_⟩
  refine ⟨fun m σ2 H2 => ∃ G2 α2, SR X.K Y G2 H2 σ2 α2 ∧ Same G G2 ∧ whileL fc b m α2 = some o, ⟨_, G, α, S, Same.refl G, hf⟩, ?_⟩
  rintro m σ2 H2 ⟨G2, α2, S2, s2, hf2⟩
  cases m with
  | zero => cases hf2
  | succ n =>
    obtain ⟨⟨b1, α3⟩, e3, hf3⟩ := bind_some hf2
    refine kc Y σ2 H2 G2 α2 b1 α3 _ S2 e3 fun G3 H3 S3 s3 => ?_
    have s03 : Same G G3 := s2.trans s3
    cases b1 with
    | false =>
      rw [if_neg Bool.false_ne_true] at hf3 ⊢
      cases hf3
      exact hQ σ2 G3 H3 S3 s03
    | true =>
      rw [if_pos rfl] at hf3 ⊢
      obtain ⟨o5, e5, hf5⟩ := bind_some hf3
      refine ⟨fun σ6 H6 => ∃ G6 α6, SR X.K Y G6 H6 σ6 α6 ∧ Same G G6 ∧ whileL fc b n α6 = some o, fun σ6 H6 h6 => ⟨n, Nat.lt_succ_self n, h6⟩, kb Y σ2 H3 G3 α3 o5 _ hbor S3 e5 ?_⟩
      cases o5 with
      | nx α6 => exact fun σ6 G6 H6 S6 s6 => ⟨G6, α6, S6, s03.trans s6, hf5⟩
      | ct α6 => exact fun σ6 G6 H6 S6 s6 => ⟨G6, α6, S6, s03.trans s6, hf5⟩
      | bk α6 => cases hf5; exact hQ.later s03
      | rt d6 α6 => cases hf5; exact hQ.later s03
end Pv
set_option maxHeartbeats 4000000
/-! PvD: comprehensions, defs and their calls, reading owned things. -/
namespace Pv
open PySem PySem.Spec L2

/-! ### comprehensions -/
def wipeA (α : Ev) : List Nat → Ev
  | [] => α
  | v :: vs => (wipeA α vs).set v .no
theorem wipeA_length (α : Ev) : ∀ vs : List Nat, (wipeA α vs).length = α.length
  | [] => rfl
  | v :: vs => by unfold wipeA; rw [List.length_set, wipeA_length α vs]
theorem wipeA_get {α : Ev} {i : Nat} : ∀ {vs : List Nat}, i ∉ vs → (wipeA α vs)[i]? = α[i]?
  | [], _ => rfl
  | v :: vs, h => by
    have h1 : v ≠ i := fun e => h (e ▸ List.mem_cons_self)
    unfold wipeA
    rw [List.getElem?_set_ne h1]
    exact wipeA_get fun k => h (List.mem_cons_of_mem _ k)
theorem wipeA_in {α : Ev} {i : Nat} {x : AV} : ∀ {vs : List Nat}, i ∈ vs → (wipeA α vs)[i]? = some x → x = .no
  | v :: vs, h, e => by
    unfold wipeA at e
    by_cases hv : v = i
    · subst hv
      rw [List.getElem?_set, if_pos rfl] at e
      split at e
      · cases e; rfl
      · cases e
    · rw [List.getElem?_set_ne hv] at e
      exact wipeA_in ((List.mem_cons.mp h).resolve_left fun e => hv e.symm) e
/-- behind a comprehension: the data at its own names as they were -/
def keepIm : Option AV → AV
  | some (.im d) => .im d
  | _ => .no
def backA (α0 α : Ev) : List Nat → Ev
  | [] => α
  | v :: vs => (backA α0 α vs).set v (keepIm α0[v]?)
theorem backA_length (α0 α : Ev) : ∀ vs : List Nat, (backA α0 α vs).length = α.length
  | [] => rfl
  | v :: vs => by unfold backA; rw [List.length_set, backA_length α0 α vs]
theorem backA_get {α0 α : Ev} {i : Nat} {x : AV} : ∀ {vs : List Nat}, (backA α0 α vs)[i]? = some x → (i ∉ vs ∧ α[i]? = some x) ∨ (i ∈ vs ∧ x = keepIm α0[i]?)
  | [], e => .inl ⟨by simp, e⟩
  | v :: vs, e => by
    unfold backA at e
    by_cases hv : v = i
    · subst hv
      rw [List.getElem?_set, if_pos rfl] at e
      split at e
      · cases e; exact .inr ⟨List.mem_cons_self, rfl⟩
      · cases e
    · rw [List.getElem?_set_ne hv] at e
      rcases backA_get e with ⟨h1, h2⟩ | ⟨h1, h2⟩
      · exact .inl ⟨fun z => (List.mem_cons.mp z).elim (fun q => hv q.symm) h1, h2⟩
      · exact .inr ⟨List.mem_cons_of_mem _ h1, h2⟩
def compL (vs : List Nat) (tg : D → Ev → Option Ev) (tt : Ev → Option (Bool × Ev)) (te : Ev → Option (D × Ev)) : List D → Ev → Option (List D × Ev)
  | [], α => some ([], α)
  | d :: ds, α => (tg d (wipeA α vs)).bind fun α1 => (tt α1).bind fun p => if p.1 = true then
      (te p.2).bind fun q => (compL vs tg tt te ds q.2).bind fun r => some (q.1 :: r.1, r.2)
    else compL vs tg tt te ds p.2
def cComp (vs : List Nat) (f : Ev → Option (List D × Ev)) (tg : D → Ev → Option Ev) (tt : Ev → Option (Bool × Ev)) (te : Ev → Option (D × Ev)) : Ev → Option (C × Ev) := fun α =>
  (f α).bind fun p => (compL vs tg tt te p.1 p.2).bind fun q => if q.1.length ≤ sizeLine then some (.lst q.1, backA p.2 q.2 vs) else none
/-- the tests of a comprehension -/
def RTs (X : Cx) (ifs : List Expr) (f : Ev → Option (Bool × Ev)) : Prop :=
  ∃ t, PTs X ifs t ∧ ∀ (Y : Ent) (σ : L2.St) (H G : Hp) (α : Ev) (b : Bool) (α' : Ev) (Q : Bool → Hp → Prop), SR X.K Y G H σ α → f α = some (b, α') →
    (∀ G' H', SR X.K Y G' H' σ α' → Same G G' → Q b H') → t σ H Q
def cYes : Ev → Option (Bool × Ev) := fun α => some (true, α)
theorem rts_nil {X : Cx} : RTs X [] cYes := ⟨_, pts_nil, fun Y σ H G α b α' Q S hf hQ => by cases hf; exact hQ G H S (Same.refl G)⟩
theorem rts_one {X : Cx} {c : Expr} {f : Ev → Option (Bool × Ev)} (h : RT X c f) : RTs X [c] f := by
  obtain ⟨t, p, k⟩ := h
  exact ⟨t, pts_one p, k⟩
section
variable {X : Cx} {elt tg iter : Expr} {ifs : List Expr} {scope : Scope} {own : List (Str × Nat)} {pos : Pos} {f : Ev → Option (List D × Ev)} {g : D → Ev → Option Ev} {tt : Ev → Option (Bool × Ev)} {te : Ev → Option (D × Ev)}
theorem SR.wiped {K : Fg} {Y : Ent} {G H : Hp} {σ σ' : L2.St} {α' : Ev} {vs : List Nat} (S : SR K Y G H σ' α') (hl : σ.length = σ'.length) (h : wipe σ' vs = wipe σ vs) : SR K Y G H (wipe σ vs) (wipeA α' vs) := by
  refine S.forget (by rw [wipeA_length, wipe_length, S.len, hl]) fun i x e => ?_
  by_cases hi : i ∈ vs
  · exact .inl (wipeA_in hi e)
  · rw [wipeA_get hi] at e
    refine .inr ⟨e, ?_⟩
    rw [wipe_get hi, ← wipe_get (σ := σ') hi, h, wipe_get hi]
theorem comp_run {K : Fg} {vs : List Nat} {ta : TG} {tb : TT} {tc : TE} {vt : List Nat} (hv : ∀ i ∈ vt, i ∈ vs)
    (kg : ∀ (Y : Ent) (σ : L2.St) (H G : Hp) (α α' : Ev) (d : D) (v : V) (Q : L2.St → Hp → Prop), SR K Y G H σ α → Im K G v d → g d α = some α' → (∀ σ', SR K Y G H σ' α' → σ'.length = σ.length → (∀ i, i ∉ vt → σ'[i]? = σ[i]?) → Q σ' H) → ta v σ H Q)
    (kt : ∀ (Y : Ent) (σ : L2.St) (H G : Hp) (α : Ev) (b : Bool) (α' : Ev) (Q : Bool → Hp → Prop), SR K Y G H σ α → tt α = some (b, α') → (∀ G' H', SR K Y G' H' σ α' → Same G G' → Q b H') → tb σ H Q)
    (ke : ∀ (Y : Ent) (σ : L2.St) (H G : Hp) (α : Ev) (d : D) (α' : Ev) (Q : VK), SR K Y G H σ α → te α = some (d, α') → (∀ v G' H', SR K Y G' H' σ α' → Same G G' → Im K G' v d → Q v H') → tc σ H Q)
    {Y : Ent} {σ : L2.St} {G1 H1 : Hp} {α1 α2 : Ev} {ds es : List D} {J : It} {Q : VK} (S1 : SR K Y G1 H1 σ α1) (hw : Walk K J (fun _ _ => True) G1 ds) (hf : compL vs g tt te ds α1 = some (es, α2)) (hz : es.length ≤ sizeLine)
    (hQ : ∀ p o G' H', SR K Y G' H' σ (backA α1 α2 vs) → Same G1 G' → H' p = some o → RepC K G' o (.lst es) → Loose Y G' H' σ (backA α1 α2 vs) p → Q (.ref p) H') :
    ∀ D, H1 D = none → ∃ W : Nat → Nat → Hp → Prop, (∃ m, W 0 m (upd H1 D (.lst []))) ∧ ∀ i m H, W i m H →
      (J.stop i H ∧ Q (.ref D) H) ∨ (J.go i H ∧ ∃ Nx : Hp → Prop, (∀ H', Nx H' → ∃ m', m' < m ∧ W (i + 1) m' H') ∧ ∀ x H', J.yld i H x H' → ta x (wipe σ vs) H' fun σ2 H2 => wipe σ2 vs = wipe σ vs ∧ tb σ2 H2 fun b H3 =>
        if b = true then tc σ2 H3 fun y H4 => ∃ acc, H4 D = some (.lst acc) ∧ acc.length < sizeLine ∧ Nx (upd H4 D (.lst (acc ++ [y]))) else Nx H3) := by
  intro D hD
  let Wd : Nat → Hp → Prop := fun i H => ∃ G α, SR K Y G H (wipe σ vs) (wipeA α vs) ∧ Same G1 G ∧ (∃ acc ads, H D = some (.lst acc) ∧ Ims K G acc ads ∧ Loose Y G H (wipe σ vs) (wipeA α vs) D ∧ ∃ rest, compL vs g tt te (ds.drop i) α = some (rest, α2) ∧ ads ++ rest = es)
  refine ⟨fun i m H => m = ds.length - i ∧ i ≤ ds.length ∧ Wd i H, ⟨ds.length, by simp, Nat.zero_le _, G1, α1, SR.wiped (σ := σ) (S1.raw hD) rfl rfl, Same.refl G1, [], [], upd_same, .nil, ?_, es, hf, rfl⟩, ?_⟩
  · have l := S1.loose hD
    exact ⟨l.g, l.h0, fun i ⟨⟨c, hc⟩, hs⟩ => by
      by_cases hi : i ∈ vs
      · exact nomatch wipeA_in hi hc
      · rw [wipeA_get hi] at hc
        rw [wipe_get hi] at hs
        exact l.no i ⟨⟨c, hc⟩, hs⟩⟩
  rintro i m H ⟨rfl, hi, G, α, S, s, acc, ads, hH, ra, l, rest, hr, er⟩
  obtain ⟨hstop, hgo⟩ := hw Y i _ G H _ S s trivial
  cases hd : ds[i]? with
  | none =>
    have hlen : ds.length ≤ i := List.getElem?_eq_none_iff.mp hd
    rw [List.drop_eq_nil_of_le hlen] at hr
    have e : some (([] : List PyData), α) = some (rest, α2) := hr
    cases e
    rw [List.append_nil] at er
    subst er
    refine .inl ⟨hstop hd, hQ D (.lst acc) G H ?_ s hH ra ⟨l.g, l.h0, ?_⟩⟩
    · -- back to the def's slots
      have im0 : ∀ (i : Nat) (d : PyData), i ∈ vs → keepIm α1[i]? = .im d → ∃ v, σ[i]? = some (some v) ∧ Im K G v d := fun i d _ e => by
        cases q : α1[i]? with
        | none => rw [q] at e; cases e
        | some x =>
          rw [q] at e
          cases x with
          | im d' =>
            cases e
            obtain ⟨v, h1, h2⟩ := S1.im i _ q
            exact ⟨v, h1, Im.mono s _ _ h2⟩
          | no => cases e
          | own c => cases e
      have kno : ∀ (i : Nat) (c : C), keepIm α1[i]? ≠ .own c := fun i c e => by
        cases q : α1[i]? with
        | none => rw [q] at e; cases e
        | some x => rw [q] at e; cases x <;> cases e
      have own : ∀ {i : Nat} {c : C}, (backA α1 α2 vs)[i]? = some (.own c) → i ∉ vs ∧ α2[i]? = some (.own c) := fun {i c} e => by
        rcases backA_get e with ⟨h1, h2⟩ | ⟨h1, h2⟩
        · exact ⟨h1, h2⟩
        · exact (kno i c h2.symm).elim
      refine ⟨by rw [backA_length, ← wipeA_length α2 vs, S.len, wipe_length], S.le, S.g0, S.gf, S.fr, S.al, fun i d e => ?_, fun i c e => ?_, fun i j p ⟨⟨c, hc⟩, hs⟩ ⟨⟨c', hc'⟩, hs'⟩ => ?_, S.pt⟩
      · rcases backA_get e with ⟨h1, h2⟩ | ⟨h1, h2⟩
        · obtain ⟨v, k1, k2⟩ := S.im i d (by rw [wipeA_get h1]; exact h2)
          rw [wipe_get h1] at k1
          exact ⟨v, k1, k2⟩
        · exact im0 i d h1 h2.symm
      · obtain ⟨h1, h2⟩ := own e
        obtain ⟨p, o, k1, k2⟩ := S.ow i c (by rw [wipeA_get h1]; exact h2)
        rw [wipe_get h1] at k1
        exact ⟨p, o, k1, k2⟩
      · obtain ⟨h1, h2⟩ := own hc
        obtain ⟨h1', h2'⟩ := own hc'
        exact S.di i j p ⟨⟨c, by rw [wipeA_get h1]; exact h2⟩, by rw [wipe_get h1]; exact hs⟩ ⟨⟨c', by rw [wipeA_get h1']; exact h2'⟩, by rw [wipe_get h1']; exact hs'⟩
    · rintro i ⟨⟨c, hc⟩, hs⟩
      rcases backA_get hc with ⟨h1, h2⟩ | ⟨h1, h2⟩
      · exact l.no i ⟨⟨c, by rw [wipeA_get h1]; exact h2⟩, by rw [wipe_get h1]; exact hs⟩
      · cases q : α1[i]? with
        | none => rw [q] at h2; cases h2
        | some x => rw [q] at h2; cases x <;> cases h2
  | some d =>
    have hlen : i < ds.length := (List.getElem?_eq_some_iff.mp hd).1
    obtain ⟨go, yld⟩ := hgo d hd
    refine .inr ⟨go, fun H' => Wd (i + 1) H', fun H' h' => ⟨_, by omega, rfl, hlen, h'⟩, fun x H3 hy => ?_⟩
    -- the new list stands besides
    obtain ⟨G3, S3', s3, r3⟩ := hw ⟨upd Y.H0 D (.lst acc), G, Y.π⟩ i _ G H _ (S.narrow hH l) s trivial |>.2 d hd |>.2 x H3 hy
    rw [drop_cons hd] at hr
    obtain ⟨β1, e1, hr⟩ := bind_some hr
    obtain ⟨⟨b, β2⟩, e2, hr⟩ := bind_some hr
    refine kg _ _ H3 G3 _ β1 d x _ S3' r3 e1 fun σ4 S4 l4 o4 => ?_
    have hl4 : σ.length = σ4.length := by rw [l4, wipe_length]
    have hw4 : wipe σ4 vs = wipe σ vs := wipe_eq hl4.symm fun i hi => (o4 i fun z => hi (hv i z)).trans (wipe_get hi)
    refine ⟨hw4, kt _ σ4 H3 G3 β1 b β2 _ S4 e2 fun G5 H5 S5 s5 => ?_⟩
    have fin : ∀ {G6 H6 : Hp} {β3 : Ev}, SR K ⟨upd Y.H0 D (.lst acc), G, Y.π⟩ G6 H6 σ4 β3 → SR K Y G6 H6 (wipe σ vs) (wipeA β3 vs) ∧ Same G G6 ∧ H6 D = some (.lst acc) ∧ Loose Y G6 H6 (wipe σ vs) (wipeA β3 vs) D := fun {G6 H6 β3} S6 => by
      obtain ⟨S7, s7, e7, l7⟩ := S.widen l S6
      refine ⟨S7.wiped hl4 hw4, s7, e7, l7.g, l7.h0, fun i ⟨⟨c, hc⟩, hs⟩ => ?_⟩
      by_cases hi : i ∈ vs
      · exact nomatch wipeA_in hi hc
      · rw [wipeA_get hi] at hc
        rw [wipe_get hi] at hs
        refine l7.no i ⟨⟨c, hc⟩, ?_⟩
        rw [← wipe_get (σ := σ4) hi, hw4, wipe_get hi]
        exact hs
    cases b with
    | false =>
      rw [if_neg Bool.false_ne_true] at hr ⊢
      obtain ⟨S7, s7, e7, l7⟩ := fin S5
      exact ⟨G5, β2, S7, s.trans s7, acc, ads, e7, Ims.mono s7 _ _ ra, l7, rest, hr, er⟩
    | true =>
      rw [if_pos rfl] at hr ⊢
      obtain ⟨⟨y, β3⟩, e3, hr⟩ := bind_some hr
      obtain ⟨⟨ys, β4⟩, e4, hr⟩ := bind_some hr
      cases hr
      refine ke _ σ4 H5 G5 β2 y β3 _ S5 e3 fun yv G6 H6 S6 s6 r6 => ?_
      obtain ⟨S7, s7, e7, l7⟩ := fin S6
      refine ⟨acc, e7, ?_, G6, β3, ?_, s.trans s7, acc ++ [yv], ads ++ [y], upd_same, Ims.append (Ims.mono s7 _ _ ra) (Ims.one r6), ?_, ys, e4, ?_⟩
      · have : acc.length = ads.length := Ims.length ra
        have h2 : es.length = ads.length + (ys.length + 1) := by rw [← er, List.length_append, List.length_cons]
        omega
      · exact S7.rewrite e7 l7
      · exact ⟨l7.g, l7.h0, l7.no⟩
      · rw [← er, List.append_assoc]; rfl
end
end Pv
set_option maxHeartbeats 4000000
/-! PvE: comprehension rules, defs and calls. -/
namespace Pv
open PySem PySem.Spec L2

section
variable {X : Cx} {elt tg iter : Expr} {ifs : List Expr} {scope : Scope} {own : List (Str × Nat)} {pos : Pos} {f : Ev → Option (List D × Ev)} {g : D → Ev → Option Ev} {tt : Ev → Option (Bool × Ev)} {te : Ev → Option (D × Ev)}
/-- a context within a comprehension of X -/
def Blk (X : Cx) (scope : Scope) (R : Cx → Prop) : Prop := ∀ (s : Shared) (H : Hp) (C : Addr) (cl : List (Str × Addr)) (fp : List Addr), R (X.blk s H scope (compEnvC scope cl C X.env) fp)
theorem rf_comp {vt : List Nat} (hc : X.calm = true) (hN : X.N.Nodup) (hi : RI X tg iter f) (ok : blkC X.N X.env.scope scope own = true) (hv : ∀ i ∈ vt, i ∈ own.map (·.2))
    (hg : ∃ t, (Blk X scope fun Z => PG Z tg t) ∧ ∀ (Y : Ent) (σ : L2.St) (H G : Hp) (α α' : Ev) (d : D) (v : V) (Q : L2.St → Hp → Prop), SR X.K Y G H σ α → Im X.K G v d → g d α = some α' → (∀ σ', SR X.K Y G H σ' α' → σ'.length = σ.length → (∀ i, i ∉ vt → σ'[i]? = σ[i]?) → Q σ' H) → t v σ H Q)
    (ht : ∃ t, (Blk X scope fun Z => PTs Z ifs t) ∧ ∀ (Y : Ent) (σ : L2.St) (H G : Hp) (α : Ev) (b : Bool) (α' : Ev) (Q : Bool → Hp → Prop), SR X.K Y G H σ α → tt α = some (b, α') → (∀ G' H', SR X.K Y G' H' σ α' → Same G G' → Q b H') → t σ H Q)
    (he : ∃ t, (Blk X scope fun Z => PE Z elt t) ∧ ∀ (Y : Ent) (σ : L2.St) (H G : Hp) (α : Ev) (d : D) (α' : Ev) (Q : VK), SR X.K Y G H σ α → te α = some (d, α') → (∀ v G' H', SR X.K Y G' H' σ α' → Same G G' → Im X.K G' v d → Q v H') → t σ H Q)
    (hs : ∀ x, foldedSetIterable iter X.env x = pure x := by intro _; rfl) : RF X (.ListComp elt [⟨tg, iter, ifs, 0⟩] scope pos) (cComp (own.map (·.2)) f g tt te) := by
  obtain ⟨wi, pi, ki⟩ := hi
  obtain ⟨ta, pa, ka⟩ := hg
  obtain ⟨tb, pb, kb⟩ := ht
  obtain ⟨tc, pc, kc⟩ := he
  refine ⟨_, pe_lc hc hN pi (blkOk_by ok) pa pb pc hs, fun Y σ H G α c α' Q S hf hQ => ?_⟩
  obtain ⟨⟨ds, α1⟩, e1, hf⟩ := bind_some hf
  obtain ⟨⟨es, α2⟩, e2, hf⟩ := bind_some hf
  split at hf
  · rename_i hz
    cases hf
    exact ki Y σ H G α ds α1 _ S e1 fun J G1 H1 S1 s1 hw => comp_run hv ka kb kc S1 hw e2 hz fun p o G' H' S' s' e r l => hQ p o G' H' S' (s1.trans s') e r l
  · cases hf
theorem rs_comp {bor : List Nat} {vt : List Nat} {i : Nat} {y : Str} {py spos : Pos} (hc : X.calm = true) (hN : X.N.Nodup) (hy : X.N[i]? = some y) (hyl : X.env.scope.names.lookup y = some .local) (hib : i ∉ bor)
    (hsw : swapsWith (.ListComp elt [⟨tg, iter, ifs, 0⟩] scope pos) (some (.Name y py)) spos.line X.env = pure true) (hi : RI X tg iter f) (ok : blkC X.N X.env.scope scope own = true) (hv : ∀ i ∈ vt, i ∈ own.map (·.2))
    (hg : ∃ t, (Blk X scope fun Z => PG Z tg t) ∧ ∀ (Y : Ent) (σ : L2.St) (H G : Hp) (α α' : Ev) (d : D) (v : V) (Q : L2.St → Hp → Prop), SR X.K Y G H σ α → Im X.K G v d → g d α = some α' → (∀ σ', SR X.K Y G H σ' α' → σ'.length = σ.length → (∀ i, i ∉ vt → σ'[i]? = σ[i]?) → Q σ' H) → t v σ H Q)
    (ht : ∃ t, (Blk X scope fun Z => PTs Z ifs t) ∧ ∀ (Y : Ent) (σ : L2.St) (H G : Hp) (α : Ev) (b : Bool) (α' : Ev) (Q : Bool → Hp → Prop), SR X.K Y G H σ α → tt α = some (b, α') → (∀ G' H', SR X.K Y G' H' σ α' → Same G G' → Q b H') → t σ H Q)
    (he : ∃ t, (Blk X scope fun Z => PE Z elt t) ∧ ∀ (Y : Ent) (σ : L2.St) (H G : Hp) (α : Ev) (d : D) (α' : Ev) (Q : VK), SR X.K Y G H σ α → te α = some (d, α') → (∀ v G' H', SR X.K Y G' H' σ α' → Same G G' → Im X.K G' v d → Q v H') → t σ H Q)
    (hs : ∀ x, foldedSetIterable iter X.env x = pure x := by intro _; rfl) : RS X bor (.Assign [.Name y py] (.ListComp elt [⟨tg, iter, ifs, 0⟩] scope pos) spos) (sOwn i (cComp (own.map (·.2)) f g tt te)) := by
  obtain ⟨wi, pi, ki⟩ := hi
  obtain ⟨ta, pa, ka⟩ := hg
  obtain ⟨tb, pb, kb⟩ := ht
  obtain ⟨tc, pc, kc⟩ := he
  refine ⟨_, ps_setLc hc hN hy hyl hsw pi (blkOk_by ok) pa pb pc hs, fun Y σ H G α o Dn hb S hf hQ => ?_⟩
  obtain ⟨⟨c, α3⟩, e3, hf⟩ := bind_some hf
  cases hf
  obtain ⟨⟨ds, α1⟩, e1, e3⟩ := bind_some e3
  obtain ⟨⟨es, α2⟩, e2, e3⟩ := bind_some e3
  split at e3
  · rename_i hz
    cases e3
    exact ki Y σ H G α ds α1 _ S e1 fun J G1 H1 S1 s1 hw => comp_run (Q := fun x H1 => gName i x σ H1 Dn.nx) hv ka kb kc S1 hw e2 hz fun p o G' H' S' s' e r l => hQ _ G' H' (S'.set_own (hb.free hib) e r l) (s1.trans s')
  · cases e3
end

/-! ### an owned list is read only from here on -/
def frzA (i : Nat) (α : Ev) : Ev := match α[i]? with
  | some (.own (.lst ds)) => α.set i (.im (.list ds))
  | _ => α
theorem SR.frz {K : Fg} {Y : Ent} {G H : Hp} {σ : L2.St} {α : Ev} (S : SR K Y G H σ α) (i : Nat) (hn : ∀ a, Y.π i ≠ some a) : ∃ G', SR K Y G' H σ (frzA i α) ∧ Same G G' := by
  unfold frzA
  split
  · rename_i ds e
    obtain ⟨p, o, h1, h2, h3, h4, h5⟩ := S.ow i _ e
    have h6 : Y.H0 p = none := by
      rcases h5 with h5 | ⟨h5, _⟩
      · exact (hn p h5).elim
      · exact h5
    cases o <;> first | exact h3.elim | skip
    case lst vs =>
      -- first forgotten, then frozen, then known again
      have F : SR K Y G H σ (α.set i .no) := S.forget (by rw [List.length_set]; exact S.len) fun j x q => by
        by_cases hj : i = j
        · subst hj
          rw [List.getElem?_set, if_pos rfl] at q
          split at q
          · cases q; exact .inl rfl
          · cases q
        · rw [List.getElem?_set_ne hj] at q; exact .inr ⟨q, rfl⟩
      have l : Loose Y G H σ (α.set i .no) p := ⟨h4, h6, fun j ⟨⟨c, hc⟩, hs⟩ => by
        by_cases hj : i = j
        · subst hj
          rw [List.getElem?_set, if_pos rfl] at hc
          split at hc <;> cases hc
        · rw [List.getElem?_set_ne hj] at hc; exact hj (S.di i j p ⟨⟨_, e⟩, h1⟩ ⟨⟨c, hc⟩, hs⟩)⟩
      have s2 : Same G (upd G p (.lst vs)) := same_upd l.g
      have Z := (F.freeze h2 l).set_im (i := i) (v := .ref p) (d := .list ds) (.lst (.inl (.inl upd_same)) (Ims.mono s2 _ _ h3))
      have hσ : σ.set i (some (.ref p)) = σ := by
        obtain ⟨hl, e2⟩ := List.getElem?_eq_some_iff.mp h1
        rw [← e2]; exact List.set_getElem_self ..
      rw [hσ, List.set_set] at Z
      exact ⟨_, Z, s2⟩
  · exact ⟨G, S, Same.refl G⟩
theorem rss_frz {X : Cx} {bor : List Nat} {sts : List Stmt} {g : Ev → Option Out} (i : Nat) (hib : i ∉ bor) (h : RSs X bor sts g) : RSs X bor sts (fun α => g (frzA i α)) := by
  obtain ⟨t, p, k⟩ := h
  refine ⟨t, p, fun Y σ H G α o Dn hb S hf hQ => ?_⟩
  obtain ⟨G', S', s'⟩ := S.frz i (hb.free hib)
  exact k Y σ H G' _ o Dn hb S' hf (hQ.later s')

/-! ### defs -/
def cRun (g : Ev → Option Out) (α : Ev) : Option (D × Ev) := (g α).bind fun o => match o with
  | .rt d α' => some (d, α')
  | .nx α' => some (.none, α')
  | _ => none
/-- the arguments behind a call: owned ones as they are then -/
def outs : List AV → Ev → Option (List AV)
  | [], _ => some []
  | .own _ :: r, .own c' :: s => (outs r s).bind fun t => some (.own c' :: t)
  | .own _ :: _, _ => none
  | .im d :: r, _ :: s => (outs r s).bind fun t => some (.im d :: t)
  | .no :: r, _ :: s => (outs r s).bind fun t => some (.no :: t)
  | _ :: _, [] => none
abbrev Fn := List AV → Option (D × List AV)
/-- a def of n further names: its body, run -/
def fnD (n : Nat) (g : Ev → Option Out) : Fn := fun αs => (cRun g (αs ++ List.replicate n .no)).bind fun p => (outs αs p.2).bind fun os => some (p.1, os)
def pins (vs : List V) (αs : List AV) : Nat → Option Addr := fun i => match vs[i]?, αs[i]? with
  | some (.ref p), some (.own _) => some p
  | _, _ => none
theorem pins_some {vs : List V} {αs : List AV} {i : Nat} {p : Addr} : pins vs αs i = some p ↔ vs[i]? = some (.ref p) ∧ ∃ c, αs[i]? = some (.own c) := by
  unfold pins
  constructor
  · intro h
    split at h
    · rename_i q c e1 e2
      cases h
      exact ⟨e1, c, e2⟩
    · cases h
  · rintro ⟨e1, c, e2⟩
    rw [e1, e2]
/-- a def's promise by data -/
def spF (K : Fg) (m : Nat) (bor : List Nat) (F : Fn) : Sp := fun vs H Q _ => ∃ (G : Hp) (αs : List AV) (d : D) (αs' : List AV), vs.length = m ∧ (∀ (i : Nat) c, αs[i]? = some (.own c) → i ∈ bor) ∧ SR K ⟨H, G, pins vs αs⟩ G H (vs.map some) αs ∧ F αs = some (d, αs') ∧
  ∀ v G' H', SR K ⟨H, G, pins vs αs⟩ G' H' (vs.map some) αs' → Same G G' → Im K G' v d → Q v H'
theorem outs_spec : ∀ {αs : List AV} {α : Ev} {os : List AV}, outs αs α = some os → os.length = αs.length ∧ αs.length ≤ α.length ∧
    ∀ (i : Nat) x, os[i]? = some x → (∃ c c', αs[i]? = some (.own c) ∧ x = .own c' ∧ α[i]? = some (.own c')) ∨ (αs[i]? = some x ∧ ∀ c, x ≠ .own c)
  | [], α, os, h => by cases h; exact ⟨rfl, Nat.zero_le _, fun i x e => by simp at e⟩
  | .own c :: r, .own c' :: s, os, h => by
    obtain ⟨t, h1, h⟩ := bind_some h
    cases h
    obtain ⟨a, b, k⟩ := outs_spec h1
    refine ⟨by simp [a], by simp [b], fun i x e => ?_⟩
    cases i with
    | zero => cases e; exact .inl ⟨c, c', rfl, rfl, rfl⟩
    | succ i => exact k i x e
  | .own c :: r, .im d :: s, os, h => by cases h
  | .own c :: r, .no :: s, os, h => by cases h
  | .own c :: r, [], os, h => by cases h
  | .im d :: r, y :: s, os, h => by
    obtain ⟨t, h1, h⟩ := bind_some (x := outs r s) (by cases y <;> exact h)
    cases h
    obtain ⟨a, b, k⟩ := outs_spec h1
    refine ⟨by simp [a], by simp [b], fun i x e => ?_⟩
    cases i with
    | zero => cases e; exact .inr ⟨rfl, fun c z => nomatch z⟩
    | succ i => exact k i x e
  | .no :: r, y :: s, os, h => by
    obtain ⟨t, h1, h⟩ := bind_some (x := outs r s) (by cases y <;> exact h)
    cases h
    obtain ⟨a, b, k⟩ := outs_spec h1
    refine ⟨by simp [a], by simp [b], fun i x e => ?_⟩
    cases i with
    | zero => cases e; exact .inr ⟨rfl, fun c z => nomatch z⟩
    | succ i => exact k i x e
  | .im d :: r, [], os, h => by cases h
  | .no :: r, [], os, h => by cases h
section
variable {P : Program} {w : World} {K : Fg} {mg : Str → Option Value} {base : Heap}
/-- a body run by data, from the def's start -/
theorem fn_run {N : List Str} {m n : Nat} {bor : List Nat} {g : Ev → Option Out} {t : TS} (hn : N.length - m = n)
    (kt : ∀ (Y : Ent) (σ : L2.St) (H G : Hp) (α : Ev) (o : Out) (Dn : Ends), Bor Y bor → SR K Y G H σ α → g α = some o → OutOk K Y G Dn o → t Dn σ H)
    {vs : List V} {H : Hp} {Q : VK} {E : XK} (h : spF K m bor (fnD n g) vs H Q E) : t { nx := fun _ H' => Q .non H', rt := Q } (L2.start N vs) H := by
    obtain ⟨G, αs, d, αs', hl, hbor, S0, hF, hQ⟩ := h
    obtain ⟨⟨d1, α1⟩, h1, hF⟩ := bind_some hF
    obtain ⟨os, h2, hF⟩ := bind_some hF
    cases hF
    obtain ⟨o, h0, h1⟩ := bind_some h1
    obtain ⟨o1, o2, o3⟩ := outs_spec h2
    have hlen : αs.length = vs.length := by rw [S0.len, List.length_map]
    -- the start
    have Ss : SR K ⟨H, G, pins vs αs⟩ G H (L2.start N vs) (αs ++ List.replicate n .no) := by
      unfold L2.start
      rw [hl, hn]
      have hm : (vs.map some).length = αs.length := by rw [List.length_map, hlen]
      have g1 : ∀ (i : Nat) x, (αs ++ List.replicate n AV.no)[i]? = some x → x ≠ .no → αs[i]? = some x ∧ i < αs.length := fun i x e nx => by
        by_cases hi : i < αs.length
        · rw [List.getElem?_append_left hi] at e; exact ⟨e, hi⟩
        · rw [List.getElem?_append_right (by omega), List.getElem?_replicate] at e
          split at e
          · cases e; exact (nx rfl).elim
          · cases e
      have g2 : ∀ i, i < αs.length → (vs.map some ++ List.replicate n (Option.none : Option V))[i]? = (vs.map some)[i]? := fun i hi => List.getElem?_append_left (by rw [hm]; exact hi)
      refine ⟨by simp [hlen], S0.le, S0.g0, S0.gf, S0.fr, S0.al, fun i d e => ?_, fun i c e => ?_, fun i j p ⟨⟨c, hc⟩, hs⟩ ⟨⟨c', hc'⟩, hs'⟩ => ?_, S0.pt⟩
      · obtain ⟨e1, e2⟩ := g1 i _ e (fun z => nomatch z)
        rw [g2 i e2]; exact S0.im i d e1
      · obtain ⟨e1, e2⟩ := g1 i _ e (fun z => nomatch z)
        rw [g2 i e2]; exact S0.ow i c e1
      · obtain ⟨e1, e2⟩ := g1 i _ hc (fun z => nomatch z)
        obtain ⟨f1, f2⟩ := g1 j _ hc' (fun z => nomatch z)
        rw [g2 i e2] at hs
        rw [g2 j f2] at hs'
        exact S0.di i j p ⟨⟨c, e1⟩, hs⟩ ⟨⟨c', f1⟩, hs'⟩
    have hB : Bor ⟨H, G, pins vs αs⟩ bor := fun i a e => by
      obtain ⟨_, c, e2⟩ := pins_some.mp e
      exact hbor i c e2
    -- the end
    have fin : ∀ v σ' G' H', SR K ⟨H, G, pins vs αs⟩ G' H' σ' α1 → Same G G' → Im K G' v d1 → Q v H' := fun v σ' G' H' S1 s1 r1 => by
      refine hQ v G' H' ?_ s1 r1
      have own : ∀ {i c p}, αs'[i]? = some (.own c) → (vs.map some)[i]? = some (some (.ref p)) → OwnAt σ' α1 i p := fun {i c p} hc hs => by
        rcases o3 i _ hc with ⟨c1, c', e1, e2, e3⟩ | ⟨_, h⟩
        · obtain ⟨q, u, k1, k2, k3, k4, k5⟩ := S1.ow i c' e3
          have hp : pins vs αs i = some p := pins_some.mpr ⟨by
            rw [List.getElem?_map] at hs
            cases q2 : vs[i]? with
            | none => rw [q2] at hs; cases hs
            | some z => rw [q2] at hs; cases hs; rfl, c1, e1⟩
          have : q = p := by
            rcases k5 with k5 | ⟨_, k5⟩
            · have k5 : pins vs αs i = some q := k5
              rw [hp] at k5; cases k5; rfl
            · exact (k5 p hp).elim
          subst this
          exact ⟨⟨c', e3⟩, k1⟩
        · exact (h c rfl).elim
      refine ⟨by rw [o1, S0.len], S1.le, S1.g0, S1.gf, S1.fr, S1.al, fun i d e => ?_, fun i c e => ?_, fun i j p ⟨⟨c, hc⟩, hs⟩ ⟨⟨c', hc'⟩, hs'⟩ => S1.di i j p (own hc hs) (own hc' hs'), S1.pt⟩
      · rcases o3 i _ e with ⟨_, _, _, e2, _⟩ | ⟨h, _⟩
        · cases e2
        · obtain ⟨v, k1, k2⟩ := S0.im i d h
          exact ⟨v, k1, Im.mono s1 _ _ k2⟩
      · rcases o3 i _ e with ⟨c1, c', e1, e2, e3⟩ | ⟨_, h⟩
        · cases e2
          obtain ⟨q, u, k1, k2, k3, k4, k5⟩ := S1.ow i c e3
          obtain ⟨q0, u0, j1, _⟩ := S0.ow i c1 e1
          have hv : vs[i]? = some (.ref q0) := by
            rw [List.getElem?_map] at j1
            cases q2 : vs[i]? with
            | none => rw [q2] at j1; cases j1
            | some z => rw [q2] at j1; cases j1; rfl
          have hp : pins vs αs i = some q0 := pins_some.mpr ⟨hv, c1, e1⟩
          have : q = q0 := by
            rcases k5 with k5 | ⟨_, k5⟩
            · have k5 : pins vs αs i = some q := k5
              rw [hp] at k5; cases k5; rfl
            · exact (k5 q0 hp).elim
          subst this
          exact ⟨q, u, j1, k2, k3, k4, .inl hp⟩
        · exact (h c rfl).elim
    refine kt ⟨H, G, pins vs αs⟩ (L2.start N vs) H G _ o _ hB Ss h0 ?_
    cases o with
    | rt d2 α2 => cases h1; exact fin
    | nx α2 => cases h1; exact fun σ' G' H' S1 s1 => fin .non σ' G' H' S1 s1 .non
    | bk α2 => cases h1
    | ct α2 => cases h1
/-- THE RULE for a def -/
theorem fn_ok {x qual : Str} {st : Stmt} {f : Addr} {fd : FuncData} {N ps : List Str} {k : Nat} {bor : List Nat} {g : Ev → Option Out} {n : Nat} (F : Fun K x qual st f fd) (S : FnScope N ps (defScope st)) (hn : N.length - ps.length = n)
    (hbody : ∀ (cdv : Value) (A : Around) (outer : List Env) (s : Shared) (H : Hp) (E : XK), Room k (A.deeper (PyProof.Rows.envOfC qual (defScope st) s.heap.objs.size f cdv)) → RSs (cxOf CX0 P w K mg base N qual (defScope st) f cdv A outer s H E).nox bor (defBody st) g) :
    FnOk P w K mg base CX0 (k + 1) f fd ps (spF K ps.length bor (fnD n g)) := by
  refine F.ok S (fun vs H Q E h => ?_) (fun cdv A outer s H vs Q E hr h => ?_)
  · obtain ⟨_, _, _, _, hl, _⟩ := h
    exact hl
  · obtain ⟨t, p, kt⟩ := hbody cdv A outer s H E hr
    exact ⟨t, p, fn_run hn kt h⟩
end
end Pv
set_option maxHeartbeats 4000000
/-! PvF: calls of defs; reading owned things. -/
namespace Pv
open PySem PySem.Spec L2

/-- an argument: data, or what a slot owns -/
inductive Ag where
  | d (x : D)
  | s (i : Nat)
def AgRep (K : Fg) (G : Hp) (σ : L2.St) : List V → List Ag → Prop
  | [], [] => True
  | v :: vs, .d x :: as => Im K G v x ∧ AgRep K G σ vs as
  | v :: vs, .s i :: as => σ[i]? = some (some v) ∧ AgRep K G σ vs as
  | _, _ => False
theorem AgRep.mono {K : Fg} {G G' : Hp} {σ : L2.St} (e : Same G G') : ∀ {vs : List V} {as : List Ag}, AgRep K G σ vs as → AgRep K G' σ vs as
  | [], [], h => trivial
  | v :: vs, .d x :: as, h => ⟨Im.mono e _ _ h.1, AgRep.mono e h.2⟩
  | v :: vs, .s i :: as, h => ⟨h.1, AgRep.mono e h.2⟩
  | [], _ :: _, h => h.elim
  | _ :: _, [], h => h.elim
theorem AgRep.length {K : Fg} {G : Hp} {σ : L2.St} : ∀ {vs : List V} {as : List Ag}, AgRep K G σ vs as → vs.length = as.length
  | [], [], _ => rfl
  | _ :: _, .d _ :: _, h => by rw [List.length_cons, List.length_cons, AgRep.length h.2]
  | _ :: _, .s _ :: _, h => by rw [List.length_cons, List.length_cons, AgRep.length h.2]
  | [], _ :: _, h => h.elim
  | _ :: _, [], h => h.elim
theorem AgRep.get {K : Fg} {G : Hp} {σ : L2.St} : ∀ {vs : List V} {as : List Ag} {j : Nat} {a : Ag}, AgRep K G σ vs as → as[j]? = some a → ∃ v, vs[j]? = some v ∧ (match a with | .d x => Im K G v x | .s i => σ[i]? = some (some v))
  | [], [], j, a, _, e => by simp at e
  | v :: vs, b :: as, 0, a, h, e => by
    cases e
    cases b with
    | d x => exact ⟨v, rfl, h.1⟩
    | s i => exact ⟨v, rfl, h.1⟩
  | v :: vs, b :: as, j + 1, a, h, e => by
    have h2 : AgRep K G σ vs as := by cases b <;> exact h.2
    obtain ⟨u, k1, k2⟩ := AgRep.get (j := j) h2 (by simpa using e)
    exact ⟨u, by simpa using k1, k2⟩
  | [], _ :: _, _, _, h, _ => h.elim
  | _ :: _, [], _, _, h, _ => h.elim
/-- arguments -/
def RG (X : Cx) (es : List Expr) (f : Ev → Option (List Ag × Ev)) : Prop :=
  ∃ t, PA X es t ∧ ∀ (Y : Ent) (σ : L2.St) (H G : Hp) (α : Ev) (as : List Ag) (α' : Ev) (Q : List V → Hp → Prop), SR X.K Y G H σ α → f α = some (as, α') →
    (∀ vs G' H', SR X.K Y G' H' σ α' → Same G G' → AgRep X.K G' σ vs as → Q vs H') → t σ H Q
def gaNil : Ev → Option (List Ag × Ev) := fun α => some ([], α)
def gaD (fa : Ev → Option (D × Ev)) (fr : Ev → Option (List Ag × Ev)) : Ev → Option (List Ag × Ev) := fun α =>
  (fa α).bind fun p => (fr p.2).bind fun q => some (.d p.1 :: q.1, q.2)
def gaS (i : Nat) (fr : Ev → Option (List Ag × Ev)) : Ev → Option (List Ag × Ev) := fun α => match α[i]? with
  | some (.own _) => (fr α).bind fun q => some (.s i :: q.1, q.2)
  | _ => none
section
variable {X : Cx} {e : Expr} {es : List Expr} {pos : Pos}
theorem rg_nil : RG X [] gaNil := ⟨_, pa_nil, fun Y σ H G α ds α' Q S hf hQ => by cases hf; exact hQ [] G H S (Same.refl G) trivial⟩
theorem rg_d {fa : Ev → Option (D × Ev)} {fr : Ev → Option (List Ag × Ev)} (ha : RE X e fa) (hr : RG X es fr) (hs : starEach (e :: es) X.env = (false, eval e X.env) :: starEach es X.env := by rfl) : RG X (e :: es) (gaD fa fr) := by
  obtain ⟨t, p, k⟩ := ha
  obtain ⟨u, q, l⟩ := hr
  refine ⟨_, pa_cons p q hs, fun Y σ H G α ds α' Q S hf hQ => ?_⟩
  obtain ⟨⟨d1, α1⟩, h1, hf⟩ := bind_some hf
  obtain ⟨⟨d2, α2⟩, h2, hf⟩ := bind_some hf
  cases hf
  exact k Y σ H G α d1 α1 _ S h1 fun v G1 H1 S1 s1 r1 => l Y σ H1 G1 α1 d2 _ _ S1 h2 fun vs G2 H2 S2 s2 r2 => hQ (v :: vs) G2 H2 S2 (s1.trans s2) ⟨Im.mono s2 _ _ r1, r2⟩
theorem rg_s (i : Nat) {x : Str} {npos : Pos} {fr : Ev → Option (List Ag × Ev)} (hr : RG X es fr) (hN : X.N[i]? = some x := by rfl) (hv : Vis X.env.scope x := by first | exact Or.inl rfl | exact Or.inr (Or.inl rfl) | exact Or.inr (Or.inr rfl)) (hd : (x == ("__debug__" : Str)) = false := by decide)
    (hcd : (x == ("__classdict__" : Str)) = false := by decide) (hs : starEach (.Name x npos :: es) X.env = (false, eval (.Name x npos) X.env) :: starEach es X.env := by rfl) : RG X (.Name x npos :: es) (gaS i fr) := by
  obtain ⟨u, q, l⟩ := hr
  refine ⟨_, pa_cons (pe_var hN hv hd hcd) q hs, fun Y σ H G α ds α' Q S hf hQ => ?_⟩
  unfold gaS at hf
  split at hf
  · rename_i c ec
    obtain ⟨⟨d2, α2⟩, h2, hf⟩ := bind_some hf
    cases hf
    obtain ⟨p, o, k1, _⟩ := S.ow i c ec
    exact ⟨.ref p, k1, l Y σ H G α d2 _ _ S h2 fun vs G2 H2 S2 s2 r2 => hQ (.ref p :: vs) G2 H2 S2 s2 ⟨k1, r2⟩⟩
  · cases hf
end
/-- the arguments' contents -/
def agAV (α : Ev) : List Ag → Option (List AV)
  | [] => some []
  | .d x :: as => (agAV α as).bind fun t => some (.im x :: t)
  | .s i :: as => match α[i]? with
    | some (.own c) => (agAV α as).bind fun t => some (.own c :: t)
    | _ => none
theorem agAV_spec {α : Ev} : ∀ {as : List Ag} {αs : List AV}, agAV α as = some αs → αs.length = as.length ∧ ∀ (j : Nat) a, as[j]? = some a → (match a with | .d x => αs[j]? = some (.im x) | .s i => ∃ c, α[i]? = some (.own c) ∧ αs[j]? = some (.own c))
  | [], αs, h => by cases h; exact ⟨rfl, fun j a e => by simp at e⟩
  | .d x :: as, αs, h => by
    obtain ⟨t, h1, h⟩ := bind_some h
    cases h
    obtain ⟨a, k⟩ := agAV_spec h1
    refine ⟨by simp [a], fun j b e => ?_⟩
    cases j with
    | zero => cases e; exact rfl
    | succ j => exact k j b e
  | .s i :: as, αs, h => by
    unfold agAV at h
    split at h
    · rename_i c ec
      obtain ⟨t, h1, h⟩ := bind_some h
      cases h
      obtain ⟨a, k⟩ := agAV_spec h1
      refine ⟨by simp [a], fun j b e => ?_⟩
      cases j with
      | zero => cases e; exact ⟨c, ec, rfl⟩
      | succ j => exact k j b e
    · cases h
def slots : List Ag → List Nat
  | [] => []
  | .d _ :: as => slots as
  | .s i :: as => i :: slots as
theorem mem_slots : ∀ {as : List Ag} {j i : Nat}, as[j]? = some (.s i) → i ∈ slots as
  | [], j, i, e => by simp at e
  | .d x :: as, 0, i, e => by cases e
  | .s k :: as, 0, i, e => by cases e; exact List.mem_cons_self
  | .d x :: as, j + 1, i, e => mem_slots (as := as) (j := j) e
  | .s k :: as, j + 1, i, e => List.mem_cons_of_mem _ (mem_slots (as := as) (j := j) e)
theorem slots_inj : ∀ {as : List Ag} {j k i : Nat}, (slots as).Nodup → as[j]? = some (.s i) → as[k]? = some (.s i) → j = k
  | [], j, k, i, _, e, _ => by simp at e
  | .d x :: as, j, k, i, n, e, f => by
    cases j with
    | zero => cases e
    | succ j =>
      cases k with
      | zero => cases f
      | succ k => rw [slots_inj (as := as) n e f]
  | .s x :: as, j, k, i, n, e, f => by
    have n1 := (List.nodup_cons.mp n)
    cases j with
    | zero =>
      cases e
      cases k with
      | zero => rfl
      | succ k => exact (n1.1 (mem_slots (as := as) (j := k) f)).elim
    | succ j =>
      cases k with
      | zero => cases f; exact (n1.1 (mem_slots (as := as) (j := j) e)).elim
      | succ k => rw [slots_inj (as := as) n1.2 e f]
/-- what the arguments own, put back -/
def putB (α : Ev) : List Ag → List AV → Ev
  | .s i :: as, x :: xs => (putB α as xs).set i x
  | .d _ :: as, _ :: xs => putB α as xs
  | _, _ => α
theorem putB_length (α : Ev) : ∀ (as : List Ag) (xs : List AV), (putB α as xs).length = α.length
  | [], _ => rfl
  | .s i :: as, x :: xs => by show ((putB α as xs).set i x).length = _; rw [List.length_set, putB_length α as xs]
  | .d _ :: as, _ :: xs => putB_length α as xs
  | .s _ :: _, [] => rfl
  | .d _ :: _, [] => rfl
theorem putB_get {α : Ev} : ∀ {as : List Ag} {xs : List AV} {i : Nat} {x : AV}, as.length = xs.length → (putB α as xs)[i]? = some x → (∃ j : Nat, as[j]? = some (.s i) ∧ xs[j]? = some x) ∨ (i ∉ slots as ∧ α[i]? = some x)
  | [], xs, i, x, _, e => .inr ⟨by simp [slots], e⟩
  | .s k :: as, y :: xs, i, x, hl, e => by
    have e : ((putB α as xs).set k y)[i]? = some x := e
    by_cases hk : k = i
    · subst hk
      rw [List.getElem?_set, if_pos rfl] at e
      split at e
      · cases e; exact .inl ⟨0, rfl, rfl⟩
      · cases e
    · rw [List.getElem?_set_ne hk] at e
      rcases putB_get (as := as) (xs := xs) (by simpa using hl) e with ⟨j, h1, h2⟩ | ⟨h1, h2⟩
      · exact .inl ⟨j + 1, h1, h2⟩
      · exact .inr ⟨fun z => (List.mem_cons.mp z).elim (fun q => hk q.symm) h1, h2⟩
  | .d _ :: as, y :: xs, i, x, hl, e => by
    rcases putB_get (as := as) (xs := xs) (by simpa using hl) e with ⟨j, h1, h2⟩ | ⟨h1, h2⟩
    · exact .inl ⟨j + 1, h1, h2⟩
    · exact .inr ⟨h1, h2⟩
  | _ :: _, [], _, _, hl, _ => by simp at hl
/-- all owned arguments stand at places of bor -/
def borOk (bor : List Nat) (αs : List AV) : Bool := (List.range αs.length).all fun i => match αs[i]? with
  | some (.own _) => decide (i ∈ bor)
  | _ => true
theorem borOk_spec {bor : List Nat} {αs : List AV} (h : borOk bor αs = true) : ∀ (i : Nat) c, αs[i]? = some (.own c) → i ∈ bor := fun i c e => by
  have hi : i < αs.length := (List.getElem?_eq_some_iff.mp e).1
  have := List.all_eq_true.mp h i (List.mem_range.mpr hi)
  simp only [e] at this
  exact of_decide_eq_true this
/-- a def as it is called: how many parameters, which of them may own, what it gives -/
structure Cal where
  m : Nat
  bor : List Nat
  F : Fn
def cCall (c : Cal) (fa : Ev → Option (List Ag × Ev)) : Ev → Option (D × Ev) := fun α =>
  (fa α).bind fun p => (agAV p.2 p.1).bind fun αs => if αs.length = c.m ∧ (slots p.1).Nodup ∧ borOk c.bor αs = true then (c.F αs).bind fun q => if q.2.length = αs.length then some (q.1, putB p.2 p.1 q.2) else none else none
theorem call_run {K : Fg} {Y : Ent} {G H : Hp} {σ : L2.St} {α : Ev} {as : List Ag} {αs αs' : List AV} {vs : List V} {d : D} {m : Nat} {bor : List Nat} {F : Fn} {Q : VK} {E : XK} (S : SR K Y G H σ α) (ha : AgRep K G σ vs as) (hm : vs.length = m)
    (hαs : agAV α as = some αs) (hnd : (slots as).Nodup) (hb : borOk bor αs = true) (hF : F αs = some (d, αs')) (hl : αs'.length = αs.length) (hQ : ∀ v G' H', SR K Y G' H' σ (putB α as αs') → Same G G' → Im K G' v d → Q v H') : spF K m bor F vs H Q E := by
  obtain ⟨l1, k1⟩ := agAV_spec hαs
  have l2 := ha.length
  have at_v : ∀ {j : Nat} {v : V}, vs[j]? = some v → (vs.map some)[j]? = some (some v) := fun {j v} e => by rw [List.getElem?_map, e]; rfl
  -- an owned argument is a slot
  have slot : ∀ {j : Nat} {c : C}, αs[j]? = some (.own c) → ∃ i, as[j]? = some (.s i) ∧ α[i]? = some (.own c) ∧ ∃ p, σ[i]? = some (some (.ref p)) ∧ vs[j]? = some (.ref p) := fun {j c} e => by
    have hj : j < as.length := by rw [← l1]; exact (List.getElem?_eq_some_iff.mp e).1
    cases q : as[j]? with
    | none => rw [List.getElem?_eq_none_iff] at q; omega
    | some a =>
      have k := k1 j a q
      obtain ⟨v, w1, w2⟩ := ha.get q
      cases a with
      | d x =>
        have k : αs[j]? = some (.im x) := k
        rw [e] at k; cases k
      | s i =>
        obtain ⟨c', e1, e2⟩ := k
        rw [e] at e2; cases e2
        obtain ⟨p, o, p1, _⟩ := S.ow i c e1
        have w2 : σ[i]? = some (some v) := w2
        rw [p1] at w2
        cases w2
        exact ⟨i, rfl, e1, p, p1, w1⟩
  have Sc : SR K ⟨H, G, pins vs αs⟩ G H (vs.map some) αs := by
    refine ⟨by rw [List.length_map, l1, l2], S.le, Same.refl G, fun _ _ => rfl, fun _ _ e _ => e, fun _ e => e, fun j x e => ?_, fun j c e => ?_, fun j k p ⟨⟨c, hc⟩, hs⟩ ⟨⟨c', hc'⟩, hs'⟩ => ?_, fun i a e => ?_⟩
    · have hj : j < as.length := by rw [← l1]; exact (List.getElem?_eq_some_iff.mp e).1
      cases q : as[j]? with
      | none => rw [List.getElem?_eq_none_iff] at q; omega
      | some a =>
        have k := k1 j a q
        obtain ⟨v, w1, w2⟩ := ha.get q
        cases a with
        | d y =>
          have k : αs[j]? = some (.im y) := k
          rw [e] at k; cases k
          exact ⟨v, at_v w1, w2⟩
        | s i =>
          obtain ⟨c', e1, e2⟩ := k
          rw [e] at e2; cases e2
    · obtain ⟨i, _, e1, p, p1, p2⟩ := slot e
      obtain ⟨q, o, q1, q2, q3, q4, _⟩ := S.ow i c e1
      rw [p1] at q1; cases q1
      exact ⟨p, o, at_v p2, q2, q3, q4, .inl (pins_some.mpr ⟨p2, c, e⟩)⟩
    · obtain ⟨i, a1, e1, q, p1, p2⟩ := slot hc
      obtain ⟨i', a2, e2, q', p1', p2'⟩ := slot hc'
      rw [at_v p2] at hs; cases hs
      rw [at_v p2'] at hs'; cases hs'
      have : i = i' := S.di i i' p ⟨⟨c, e1⟩, p1⟩ ⟨⟨c', e2⟩, p1'⟩
      subst this
      exact slots_inj hnd a1 a2
    · obtain ⟨e1, c, e2⟩ := pins_some.mp e
      obtain ⟨j, _, f1, p, p1, p2⟩ := slot e2
      rw [e1] at p2; cases p2
      obtain ⟨q, o, q1, q2, _⟩ := S.ow j c f1
      rw [p1] at q1; cases q1
      show H a ≠ none
      rw [q2]; exact Option.some_ne_none _
  refine ⟨G, αs, d, αs', hm, borOk_spec hb, Sc, hF, fun v G' H' S' s' r' => hQ v G' H' ?_ s' r'⟩
  have lx : as.length = αs'.length := by rw [hl, l1]
  -- an owned slot of the caller
  have own : ∀ {i : Nat} {c : C} {p : Addr}, (putB α as αs')[i]? = some (.own c) → σ[i]? = some (some (.ref p)) → OwnAt σ α i p := fun {i c p} hc hs => by
    rcases putB_get lx hc with ⟨j, e1, e2⟩ | ⟨e1, e2⟩
    · obtain ⟨c', f1, _⟩ := k1 j _ e1
      exact ⟨⟨c', f1⟩, hs⟩
    · exact ⟨⟨c, e2⟩, hs⟩
  -- what the caller pins is no argument's, or an owned one
  have nopin : ∀ a o, Y.H0 a = some o → (∀ i, Y.π i ≠ some a) → ∀ j, pins vs αs j ≠ some a := fun a o e n j z => by
    obtain ⟨e1, c, e2⟩ := pins_some.mp z
    obtain ⟨i, _, f1, p, p1, p2⟩ := slot e2
    rw [e1] at p2; cases p2
    obtain ⟨q, o', q1, _, _, _, q5⟩ := S.ow i c f1
    rw [p1] at q1; cases q1
    rcases q5 with q5 | ⟨q5, _⟩
    · exact n i q5
    · rw [e] at q5; cases q5
  refine ⟨by rw [putB_length]; exact S.len, S'.le, S.g0.trans s', fun a e => ?_, fun a o e n => ?_, fun a e => ?_, fun i x e => ?_, fun i c e => ?_, fun i j p ⟨⟨c, hc⟩, hs⟩ ⟨⟨c', hc'⟩, hs'⟩ => S.di i j p (own hc hs) (own hc' hs'), S.pt⟩
  · exact (S'.gf a (S.al a e)).trans (S.gf a e)
  · exact S'.fr a o (S.fr a o e n) (nopin a o e n)
  · exact S'.al a (S.al a e)
  · rcases putB_get lx e with ⟨j, e1, e2⟩ | ⟨e1, e2⟩
    · obtain ⟨v, w1, w2⟩ := S'.im j x e2
      obtain ⟨u, u1, u2⟩ := ha.get e1
      rw [at_v u1] at w1; cases w1
      exact ⟨v, u2, w2⟩
    · obtain ⟨v, w1, w2⟩ := S.im i x e2
      exact ⟨v, w1, Im.mono s' _ _ w2⟩
  · rcases putB_get lx e with ⟨j, e1, e2⟩ | ⟨e1, e2⟩
    · obtain ⟨p, o, p1, p2, p3, p4, _⟩ := S'.ow j c e2
      obtain ⟨u, u1, u2⟩ := ha.get e1
      have u2 : σ[i]? = some (some u) := u2
      rw [at_v u1] at p1; cases p1
      obtain ⟨c', f1, _⟩ := k1 j _ e1
      obtain ⟨q, o', q1, _, _, _, q5⟩ := S.ow i c' f1
      rw [u2] at q1; cases q1
      exact ⟨p, o, u2, p2, p3, p4, q5⟩
    · obtain ⟨p, o, p1, p2, p3, p4, p5⟩ := S.ow i c e2
      refine ⟨p, o, p1, S'.fr p o p2 fun j z => ?_, p3.mono s', (S'.gf p (by show H p ≠ none; rw [p2]; exact Option.some_ne_none _)).trans p4, p5⟩
      obtain ⟨f1, c', f2⟩ := pins_some.mp z
      obtain ⟨k, g1, g2, q, g3, g4⟩ := slot f2
      rw [f1] at g4; cases g4
      have : i = k := S.di i k p ⟨⟨c, e2⟩, p1⟩ ⟨⟨c', g2⟩, g3⟩
      subst this
      exact e1 (mem_slots g1)
section
variable {X : Cx} {x : Str} {e : Expr} {es : List Expr} {p pos : Pos} {f : Addr} {fd : FuncData} {ps : List Str} {k : Nat} {c : Cal}
abbrev spC (K : Fg) (c : Cal) : Sp := spF K c.m c.bor c.F
/-- a call of a def of the text -/
theorem re_call {fa : Ev → Option (List Ag × Ev)} (ok : FnOk X.prog X.w X.K X.mg X.base CX0 k f fd ps (spC X.K c)) (hr : Room k X.A) (hg : Gl X x) (hm : X.mg x = some (.ref f)) (hk : PySem.W.keepIn X.K (.ref f) = true) (hb : Binds X.K fd ps [])
    (ha : RG X (e :: es) fa) (hdb : (x == ("__debug__" : Str)) = false := by decide) (he : starEach (e :: es) X.env = (false, eval e X.env) :: starEach es X.env := by rfl) (hpl : (backTo pos (starEach es X.env)).any (·.1) = false := by rfl) :
    RE X (.Call (.Name x p) (e :: es) [] pos) (cCall c fa) := by
  obtain ⟨t, pa, ka⟩ := ha
  refine ⟨_, pe_call ok hr hg hm hk hb .nil pass0 pa hdb he hpl, fun Y σ H G α d α' Q S hf hQ => ?_⟩
  obtain ⟨⟨as, α1⟩, h1, hf⟩ := bind_some hf
  obtain ⟨αs, h2, hf⟩ := bind_some hf
  split at hf
  · rename_i hc
    obtain ⟨⟨d1, αs'⟩, h3, hf⟩ := bind_some hf
    split at hf
    · rename_i hl'
      cases hf
      refine ka Y σ H G α as α1 _ S h1 fun vs G1 H1 S1 s1 r1 => ?_
      rw [List.append_nil]
      exact call_run S1 r1 (by rw [r1.length, ← (agAV_spec h2).1]; exact hc.1) h2 hc.2.1 hc.2.2 h3 hl' fun v G' H' S' s' r' => hQ v G' H' S' (s1.trans s') r'
    · cases hf
  · cases hf
def cCall0 (c : Cal) : Ev → Option (D × Ev) := fun α => if c.m = 0 then (c.F []).bind fun q => if q.2 = [] then some (q.1, α) else none else none
theorem re_call0 (ok : FnOk X.prog X.w X.K X.mg X.base CX0 k f fd ps (spC X.K c)) (hr : Room k X.A) (hg : Gl X x) (hm : X.mg x = some (.ref f)) (hk : PySem.W.keepIn X.K (.ref f) = true) (hb : Binds X.K fd ps [])
    (hdb : (x == ("__debug__" : Str)) = false := by decide) : RE X (.Call (.Name x p) [] [] pos) (cCall c gaNil) := by
  refine ⟨_, pe_call0 ok hr hg hm hk hb .nil pass0 hdb, fun Y σ H G α d α' Q S hf hQ => ?_⟩
  obtain ⟨⟨as, α1⟩, h1, hf⟩ := bind_some hf
  obtain ⟨αs, h2, hf⟩ := bind_some hf
  cases h1
  cases h2
  split at hf
  · rename_i hc
    obtain ⟨⟨d1, αs'⟩, h3, hf⟩ := bind_some hf
    split at hf
    · rename_i hl'
      cases hf
      exact call_run (E := E0) (vs := []) (as := []) S trivial hc.1 rfl hc.2.1 hc.2.2 h3 hl' fun v G' H' S' s' r' => hQ v G' H' S' s' r'
    · cases hf
  · cases hf
end

/-! ### owned things read -/
/-- all that is owned, as data -/
def thaw : AV → AV
  | .own (.lst ds) => .im (.list ds)
  | .im d => .im d
  | _ => .no
def atom : D → Bool
  | .none => true
  | .bool _ => true
  | .int _ => true
  | .str _ => true
  | _ => false
theorem atom_im {K : Fg} {G G' : Hp} {v : V} {d : D} (h : atom d = true) (r : Im K G v d) : Im K G' v d := by
  cases d <;> first | (cases h; done) | skip
  all_goals (cases r; constructor)
theorem atoms_im {K : Fg} {G G' : Hp} : ∀ {vs : List V} {ds : List D}, ds.all atom = true → Ims K G vs ds → Ims K G' vs ds
  | _, _, _, .nil => .nil
  | _, _, h, .cons r t => by
    rw [List.all_cons, Bool.and_eq_true] at h
    exact .cons (atom_im h.1 r) (atoms_im h.2 t)
theorem peek {K : Fg} {Y : Ent} {G H : Hp} {σ : L2.St} {α : Ev} (S : SR K Y G H σ α) :
    ∃ (Y' : Ent) (G' : Hp), SR K Y' G' H σ (α.map thaw) ∧ ∀ G2 H2 α2, SR K Y' G2 H2 σ α2 → ∃ G3, SR K Y G3 H2 σ α ∧ Same G G3 ∧ (∀ p, G2 p = none → Y'.H0 p = none → Loose Y G3 H2 σ α p) := by
  classical
  let Ow : Addr → Prop := fun a => ∃ (i : Nat) (ds : List D), α[i]? = some (.own (.lst ds)) ∧ σ[i]? = some (some (.ref a))
  let G' : Hp := fun a => if Ow a then H a else G a
  have g1 : Same G G' := fun a o e => by
    show (if Ow a then H a else G a) = some o
    split
    · exact S.le _ _ e
    · exact e
  have g2 : Same G' H := fun a o e => by
    have e : (if Ow a then H a else G a) = some o := e
    split at e
    · exact e
    · exact S.le _ _ e
  have th : ∀ {i : Nat} {c : C}, (α.map thaw)[i]? ≠ some (.own c) := fun {i c} e => by
    rw [List.getElem?_map] at e
    cases q : α[i]? with
    | none => rw [q] at e; cases e
    | some x =>
      rw [q] at e
      cases x with
      | no => cases e
      | im d => cases e
      | own c => cases c <;> cases e
  refine ⟨⟨H, G', fun _ => none⟩, G', ⟨by rw [List.length_map]; exact S.len, g2, Same.refl _, fun _ _ => rfl, fun _ _ e _ => e, fun _ e => e, fun i d e => ?_, fun i c e => (th e).elim, fun i j p ⟨⟨c, hc⟩, _⟩ _ => (th hc).elim, fun _ _ e => nomatch e⟩, fun G2 H2 α2 S2 => ?_⟩
  · rw [List.getElem?_map] at e
    cases q : α[i]? with
    | none => rw [q] at e; cases e
    | some x =>
      rw [q] at e
      cases x with
      | no => cases e
      | im d' =>
        cases e
        obtain ⟨v, h1, h2⟩ := S.im i _ q
        exact ⟨v, h1, Im.mono g1 _ _ h2⟩
      | own c =>
        cases c with
        | dct kvs => cases e
        | lst ds =>
          cases e
          obtain ⟨p, o, h1, h2, h3, _⟩ := S.ow i _ q
          cases o <;> first | exact h3.elim | skip
          case lst vs =>
            refine ⟨.ref p, h1, .lst (.inl (.inl ?_)) (Ims.mono g1 _ _ h3)⟩
            show (if Ow p then H p else G p) = some (.lst vs)
            rw [if_pos ⟨i, ds, q, h1⟩]
            exact h2
  · -- back: the owned ones thaw again
    let G3 : Hp := fun a => if Ow a then none else G2 a
    have owG : ∀ a, Ow a → G a = none := fun a ⟨i, ds, e1, e2⟩ => by
      obtain ⟨p, o, h1, h2, h3, h4, _⟩ := S.ow i _ e1
      rw [e2] at h1; cases h1; exact h4
    have owH : ∀ a, Ow a → H a ≠ none := fun a ⟨i, ds, e1, e2⟩ => by
      obtain ⟨p, o, h1, h2, _⟩ := S.ow i _ e1
      rw [e2] at h1; cases h1; rw [h2]; exact Option.some_ne_none _
    have k1 : Same G G3 := fun a o e => by
      show (if Ow a then none else G2 a) = some o
      split
      · rename_i h; rw [owG a h] at e; cases e
      · exact S2.g0 _ _ (g1 _ _ e)
    have k2 : Same G3 H2 := fun a o e => by
      have e : (if Ow a then none else G2 a) = some o := e
      split at e
      · cases e
      · exact S2.le _ _ e
    have k3 : ∀ a, H a ≠ none → G3 a = G a := fun a e => by
      show (if Ow a then none else G2 a) = G a
      split
      · rename_i h; exact (owG a h).symm
      · rename_i h
        have := S2.gf a e
        rw [this]
        show (if Ow a then H a else G a) = G a
        rw [if_neg h]
    have k4 : ∀ a o, H a = some o → H2 a = some o := fun a o e => S2.fr a o e fun _ z => nomatch z
    refine ⟨G3, ⟨S.len, k2, S.g0.trans k1, fun a e => (k3 a (S.al a e)).trans (S.gf a e), fun a o e n => k4 _ _ (S.fr a o e n), fun a e => S2.al a (S.al a e), fun i d e => ?_, fun i c e => ?_, S.di, S.pt⟩, k1, fun p e2 e4 => ⟨?_, ?_, fun i ⟨⟨c, hc⟩, hs⟩ => ?_⟩⟩
    · obtain ⟨v, h1, h2⟩ := S.im i d e
      exact ⟨v, h1, Im.mono k1 _ _ h2⟩
    · obtain ⟨p, o, h1, h2, h3, h4, h5⟩ := S.ow i c e
      exact ⟨p, o, h1, k4 _ _ h2, h3.mono k1, (k3 p (by rw [h2]; exact Option.some_ne_none _)).trans h4, h5⟩
    · show (if Ow p then none else G2 p) = none
      split
      · rfl
      · exact e2
    · cases q : Y.H0 p with
      | none => rfl
      | some u => exact absurd e4 (S.al p (by rw [q]; exact Option.some_ne_none _))
    · obtain ⟨q, u, h1, h2, _⟩ := S.ow i c hc
      rw [hs] at h1; cases h1
      have e4 : H p = none := e4
      rw [h2] at e4; cases e4
/-- data read off owned things too: an atom -/
def cPeek (f : Ev → Option (D × Ev)) : Ev → Option (D × Ev) := fun α => (f (α.map thaw)).bind fun p => if atom p.1 = true then some (p.1, α) else none
def cPeekT (f : Ev → Option (Bool × Ev)) : Ev → Option (Bool × Ev) := fun α => (f (α.map thaw)).bind fun p => some (p.1, α)
def cPeekF (f : Ev → Option (C × Ev)) : Ev → Option (C × Ev) := fun α => (f (α.map thaw)).bind fun p => match p.1 with
  | .lst ds => if ds.all atom = true then some (.lst ds, α) else none
  | _ => none
section
variable {X : Cx} {e : Expr}
theorem re_peek {f : Ev → Option (D × Ev)} (h : RE X e f) : RE X e (cPeek f) := by
  obtain ⟨t, p, k⟩ := h
  refine ⟨t, p, fun Y σ H G α d α' Q S hf hQ => ?_⟩
  obtain ⟨⟨d1, α1⟩, h1, hf⟩ := bind_some hf
  split at hf
  · rename_i ha
    cases hf
    obtain ⟨Y', G', S', back⟩ := peek S
    refine k Y' σ H G' _ d1 α1 _ S' h1 fun v G2 H2 S2 s2 r2 => ?_
    obtain ⟨G3, S3, s3, _⟩ := back G2 H2 α1 S2
    exact hQ v G3 H2 S3 s3 (atom_im ha r2)
  · cases hf
theorem rt_peek {f : Ev → Option (Bool × Ev)} (h : RT X e f) : RT X e (cPeekT f) := by
  obtain ⟨t, p, k⟩ := h
  refine ⟨t, p, fun Y σ H G α d α' Q S hf hQ => ?_⟩
  obtain ⟨⟨d1, α1⟩, h1, hf⟩ := bind_some hf
  cases hf
  obtain ⟨Y', G', S', back⟩ := peek S
  refine k Y' σ H G' _ d1 α1 _ S' h1 fun G2 H2 S2 s2 => ?_
  obtain ⟨G3, S3, s3, _⟩ := back G2 H2 α1 S2
  exact hQ G3 H2 S3 s3
theorem rf_peek {f : Ev → Option (C × Ev)} (h : RF X e f) : RF X e (cPeekF f) := by
  obtain ⟨t, p, k⟩ := h
  refine ⟨t, p, fun Y σ H G α c α' Q S hf hQ => ?_⟩
  obtain ⟨⟨c1, α1⟩, h1, hf⟩ := bind_some hf
  obtain ⟨Y', G', S', back⟩ := peek S
  refine k Y' σ H G' _ c1 α1 _ S' h1 fun q o G2 H2 S2 s2 e2 r2 l2 => ?_
  obtain ⟨G3, S3, s3, b3⟩ := back G2 H2 α1 S2
  cases c1 with
  | dct kvs => cases hf
  | lst ds =>
    have hf : (if ds.all atom = true then some (C.lst ds, α) else none) = some (c, α') := hf
    split at hf
    · rename_i ha
      cases hf
      cases o <;> first | exact r2.elim | skip
      case lst vs => exact hQ q (.lst vs) G3 H2 S3 s3 e2 (atoms_im ha r2) (b3 q l2.g l2.h0)
    · cases hf
end
end Pv
set_option maxHeartbeats 4000000
/-! PvG: operators, comparisons, subscripts, built-ins by data. -/
namespace Pv
open PySem PySem.Spec L2

section
variable {X : Cx}
/-! ### numbers -/
def mulOk (i j : Int) : Bool := decide (i.natAbs < 2 ^ 64) || decide (j.natAbs < 2 ^ 64) || decide (i.natAbs < 2 ^ 400000 ∧ j.natAbs < 2 ^ 400000)
theorem small_log {n : Nat} (h : n < 2 ^ 64) : n.log2 < 64 := by
  by_cases h0 : n = 0
  · subst h0; decide
  · exact (Nat.log2_lt h0).mpr h
def rMulA (i j : Int) : Prop := CMul i j ∨ CMulW i j
theorem op_mulA : OpR X (binaryOp .Mult) (rI rMulA fun i j => .int (i * j)) := by
  intro pins s σ H x y v u Q I rx ry h
  obtain ⟨i, j, e1, e2, hc, q⟩ := h
  rcases hc with hc | hc
  · exact op_mul pins s σ H x y v u Q I rx ry ⟨i, j, e1, e2, hc, q⟩
  · exact op_mulW pins s σ H x y v u Q I rx ry ⟨i, j, e1, e2, hc, q⟩
theorem iop_mulA : OpR X (inplaceOp .Mult) (rI CMul fun i j => .int (i * j)) := iop_mul
theorem mulOk_spec {i j : Int} (h : mulOk i j = true) : rMulA i j := by
  unfold mulOk at h
  simp only [Bool.or_eq_true, decide_eq_true_eq] at h
  rcases h with (h | h) | h
  · exact .inl (.inl (by omega))
  · exact .inl (.inr (by omega))
  · refine .inr ?_
    exact wide_mul h.1 h.2 (by decide) (by decide) (by decide)
def dAddI : D → D → Option D
  | .int i, .int j => some (.int (i + j))
  | _, _ => none
def dSubI : D → D → Option D
  | .int i, .int j => some (.int (i - j))
  | _, _ => none
def dMulI : D → D → Option D
  | .int i, .int j => if mulOk i j = true then some (.int (i * j)) else none
  | _, _ => none
def divOk (j : Int) : Bool := decide (0 < j) && decide (j.natAbs < 2 ^ 9000)
def dDivI : D → D → Option D
  | .int i, .int j => if divOk j = true then some (.int (i / j)) else none
  | _, _ => none
def dModI : D → D → Option D
  | .int i, .int j => if 0 < j then some (.int (i % j)) else none
  | _, _ => none
def dPowI : D → D → Option D
  | .int i, .int j => if 0 ≤ j ∧ j ≤ 1000000 ∧ i.natAbs < 2 ^ 64 then some (.int (i ^ j.toNat)) else none
  | _, _ => none
theorem opd_int {r : R2} {g : D → D → Option D} {C : Int → Int → Prop} {h : Int → Int → D} {hv : Int → Int → V}
    (hr : ∀ i j x H Q, C i j → Q (hv i j) H → x = V.int i → r x (.int j) H Q)
    (hg : ∀ a b d, g a b = some d → ∃ i j, a = .int i ∧ b = .int j ∧ C i j ∧ d = h i j) (hi : ∀ K G i j, Im K G (hv i j) (h i j)) : OpD X r g :=
  fun Y σ H G α a b d x y Q S ha hb e hQ => by
    obtain ⟨i, j, rfl, rfl, c, rfl⟩ := hg a b d e
    cases ha
    cases hb
    exact hr i j _ H Q c (hQ _ G H S (Same.refl G) (hi _ _ _ _)) rfl
theorem od_add : OpD X (rI0 fun i j => .int (i + j)) dAddI := opd_int (C := fun _ _ => True) (h := fun i j => .int (i + j)) (hv := fun i j => .int (i + j))
  (fun i j x H Q _ q e => ⟨i, j, e, rfl, q⟩) (fun a b d e => by cases a <;> cases b <;> first | (cases e; done) | (cases e; exact ⟨_, _, rfl, rfl, trivial, rfl⟩)) fun _ _ _ _ => .int _
theorem od_sub : OpD X (rI0 fun i j => .int (i - j)) dSubI := opd_int (C := fun _ _ => True) (h := fun i j => .int (i - j)) (hv := fun i j => .int (i - j))
  (fun i j x H Q _ q e => ⟨i, j, e, rfl, q⟩) (fun a b d e => by cases a <;> cases b <;> first | (cases e; done) | (cases e; exact ⟨_, _, rfl, rfl, trivial, rfl⟩)) fun _ _ _ _ => .int _
theorem od_mul : OpD X (rI rMulA fun i j => .int (i * j)) dMulI := opd_int (C := fun i j => mulOk i j = true) (h := fun i j => .int (i * j)) (hv := fun i j => .int (i * j))
  (fun i j x H Q c q e => ⟨i, j, e, rfl, mulOk_spec c, q⟩) (fun a b d e => by
    cases a <;> cases b <;> first | (cases e; done) | skip
    case int.int i j =>
      simp only [dMulI] at e
      split at e
      · cases e; exact ⟨_, _, rfl, rfl, by assumption, rfl⟩
      · cases e) fun _ _ _ _ => .int _
theorem divOk_spec {i j : Int} (h : divOk j = true) : CDivW i j := by
  unfold divOk at h
  simp only [Bool.and_eq_true, decide_eq_true_eq] at h
  exact wide_div h.1 h.2 (by decide) (by decide)
theorem od_div : OpD X (rI CDivW fun i j => .int (i / j)) dDivI := opd_int (C := fun _ j => divOk j = true) (h := fun i j => .int (i / j)) (hv := fun i j => .int (i / j))
  (fun i j x H Q c q e => ⟨i, j, e, rfl, divOk_spec c, q⟩) (fun a b d e => by
    cases a <;> cases b <;> first | (cases e; done) | skip
    case int.int i j =>
      simp only [dDivI] at e
      split at e
      · cases e; exact ⟨_, _, rfl, rfl, by assumption, rfl⟩
      · cases e) fun _ _ _ _ => .int _
theorem od_mod : OpD X (rI (fun _ j => 0 < j) fun i j => .int (i % j)) dModI := opd_int (C := fun _ j => 0 < j) (h := fun i j => .int (i % j)) (hv := fun i j => .int (i % j))
  (fun i j x H Q c q e => ⟨i, j, e, rfl, c, q⟩) (fun a b d e => by
    cases a <;> cases b <;> first | (cases e; done) | skip
    case int.int i j =>
      simp only [dModI] at e
      split at e
      · cases e; exact ⟨_, _, rfl, rfl, by assumption, rfl⟩
      · cases e) fun _ _ _ _ => .int _
theorem od_pow : OpD X (rI CPow fun i j => .int (i ^ j.toNat)) dPowI := opd_int (C := CPow) (h := fun i j => .int (i ^ j.toNat)) (hv := fun i j => .int (i ^ j.toNat))
  (fun i j x H Q c q e => ⟨i, j, e, rfl, c, q⟩) (fun a b d e => by
    cases a <;> cases b <;> first | (cases e; done) | skip
    case int.int i j =>
      simp only [dPowI] at e
      split at e
      · cases e; exact ⟨_, _, rfl, rfl, by assumption, rfl⟩
      · cases e) fun _ _ _ _ => .int _

/-! ### + -/
def dAddS : D → D → Option D
  | .str x, .str y => if x.length + y.length ≤ sizeLine then some (.str (x ++ y)) else none
  | _, _ => none
theorem od_addS : OpD X (fun x y H Q => ∃ i j, x = V.str i ∧ y = V.str j ∧ i.length + j.length ≤ sizeLine ∧ Q (V.str (i ++ j)) H) dAddS :=
  fun Y σ H G α a b d x y Q S ha hb e hQ => by
    cases a <;> cases b <;> first | (cases e; done) | skip
    case str.str p q =>
      simp only [dAddS] at e
      split at e
      · cases e
        cases ha
        cases hb
        exact ⟨_, _, rfl, rfl, by assumption, hQ _ G H S (Same.refl G) (.str _)⟩
      · cases e
def dAddT : D → D → Option D
  | .tuple xs, .tuple ys => if xs.length + ys.length ≤ sizeLine ∧ xs ≠ [] then some (.tuple (xs ++ ys)) else none
  | _, _ => none
theorem Ims.ne_nil {K : Fg} {G : Hp} {vs : List V} {ds : List D} (h : Ims K G vs ds) : vs = [] ↔ ds = [] := by
  cases h <;> simp
theorem od_addT : OpD X (rCatT X.K) dAddT := fun Y σ H G α a b d x y Q S ha hb e hQ => by
  cases a <;> cases b <;> first | (cases e; done) | skip
  case tuple.tuple xs ys =>
    simp only [dAddT] at e
    split at e
    · rename_i hz
      cases e
      cases ha with
      | tup h1 r1 =>
        cases hb with
        | tup h2 r2 =>
          refine ⟨_, _, _, _, rfl, rfl, seqT_mono S.le h1, seqT_mono S.le h2, fun z => hz.2 ((Ims.ne_nil r1).mp z), by rw [Ims.length r1, Ims.length r2]; exact hz.1, fun z => ?_, fun z p hp => ?_⟩
          · have : ys = [] := (Ims.ne_nil r2).mp z
            subst this
            rw [List.append_nil] at hQ
            exact hQ _ G H S (Same.refl G) (.tup h1 r1)
          · exact hQ _ _ _ (S.cold (o := .tup _) hp) (S.sameG hp) (.tup (.inl (.inl upd_same)) (Ims.mono (S.sameG hp) _ _ (Ims.append r1 r2)))
    · cases e
/-- a + b of numbers, texts, tuples -/
def dAdd (a b : D) : Option D := (dAddI a b).or ((dAddS a b).or (dAddT a b))
theorem re_add {a b : Expr} {fa fb : Ev → Option (D × Ev)} {pos : Pos} (ha : RE X a fa) (hb : RE X b fb) : RE X (.BinOp a .Add b pos) (cOp dAdd fa fb) :=
  re_op (op_add.or (op_add_str.or op_catT)) (od_add.or (od_addS.or od_addT)) ha hb
theorem re_sub {a b : Expr} {fa fb : Ev → Option (D × Ev)} {pos : Pos} (ha : RE X a fa) (hb : RE X b fb) : RE X (.BinOp a .Sub b pos) (cOp dSubI fa fb) := re_op op_sub od_sub ha hb
theorem re_mul {a b : Expr} {fa fb : Ev → Option (D × Ev)} {pos : Pos} (ha : RE X a fa) (hb : RE X b fb) : RE X (.BinOp a .Mult b pos) (cOp dMulI fa fb) := re_op op_mulA od_mul ha hb
theorem re_div {a b : Expr} {fa fb : Ev → Option (D × Ev)} {pos : Pos} (ha : RE X a fa) (hb : RE X b fb) : RE X (.BinOp a .FloorDiv b pos) (cOp dDivI fa fb) := re_op op_fdivW od_div ha hb
theorem re_mod {a b : Expr} {fa fb : Ev → Option (D × Ev)} {pos : Pos} (ha : RE X a fa) (hb : RE X b fb) : RE X (.BinOp a .Mod b pos) (cOp dModI fa fb) := re_op op_mod od_mod ha hb
theorem re_pow {a b : Expr} {fa fb : Ev → Option (D × Ev)} {pos : Pos} (ha : RE X a fa) (hb : RE X b fb) : RE X (.BinOp a .Pow b pos) (cOp dPowI fa fb) := re_op op_pow od_pow ha hb
def dNeg : D → Option D
  | .int i => some (.int (-i))
  | _ => none
theorem re_neg {a : Expr} {fa : Ev → Option (D × Ev)} {pos : Pos} (ha : RE X a fa) : RE X (.UnaryOp .USub a pos) (cUn dNeg fa) := by
  obtain ⟨t, p, k⟩ := ha
  refine ⟨_, pe_un un_neg p, fun Y σ H G α d α' Q S hf hQ => ?_⟩
  obtain ⟨⟨d1, α1⟩, h1, hf⟩ := bind_some hf
  obtain ⟨d2, h2, hf⟩ := bind_some hf
  cases hf
  refine k Y σ H G α d1 α1 _ S h1 fun v G1 H1 S1 s1 r1 => ?_
  have h2 : dNeg d1 = some d := h2
  cases d1 <;> first | (cases h2; done) | skip
  case int i =>
    cases h2
    cases r1
    exact ⟨_, rfl, hQ _ G1 H1 S1 s1 (.int _)⟩
theorem rs_iadd {bor : List Nat} {i : Nat} {x : Str} {e : Expr} {pos pos' : Pos} {f : Ev → Option (D × Ev)} (hN : X.N.Nodup) (hi : X.N[i]? = some x) (hx : Loc X.env.scope x) (he : RE X e f)
    (hf : X.fn x = true ∨ X.env.scope.names.lookup x = some .local := by first | exact .inl rfl | exact .inr rfl | assumption) :
    RS X bor (.AugAssign (.Name x pos') .Add e pos) (sAug i (fun a b => (dAddI a b).or (dAddS a b)) f) := rs_aug hN hi hx he (iop_add.or iop_add_str) (od_add.or od_addS) hf
theorem rs_isub {bor : List Nat} {i : Nat} {x : Str} {e : Expr} {pos pos' : Pos} {f : Ev → Option (D × Ev)} (hN : X.N.Nodup) (hi : X.N[i]? = some x) (hx : Loc X.env.scope x) (he : RE X e f)
    (hf : X.fn x = true ∨ X.env.scope.names.lookup x = some .local := by first | exact .inl rfl | exact .inr rfl | assumption) :
    RS X bor (.AugAssign (.Name x pos') .Sub e pos) (sAug i dSubI f) := rs_aug hN hi hx he iop_sub od_sub hf

/-! ### comparisons -/
def dCmpI (p : Int → Int → Bool) : D → D → Option D
  | .int i, .int j => some (.bool (p i j))
  | _, _ => none
theorem od_cmp {p : Int → Int → Bool} : OpD X (rI0 fun i j => .bl (p i j)) (dCmpI p) := opd_int (C := fun _ _ => True) (h := fun i j => .bool (p i j)) (hv := fun i j => .bl (p i j))
  (fun i j x H Q _ q e => ⟨i, j, e, rfl, q⟩) (fun a b d e => by cases a <;> cases b <;> first | (cases e; done) | (cases e; exact ⟨_, _, rfl, rfl, trivial, rfl⟩)) fun _ _ _ _ => .bl _
abbrev dLt : D → D → Option D := dCmpI fun i j => decide (i < j)
abbrev dLe : D → D → Option D := dCmpI fun i j => decide (i ≤ j)
abbrev dGt : D → D → Option D := dCmpI fun i j => decide (j < i)
abbrev dGe : D → D → Option D := dCmpI fun i j => decide (j ≤ i)
section
variable {a b : Expr} {fa fb : Ev → Option (D × Ev)} {pos : Pos}
theorem re_lt (ha : RE X a fa) (hb : RE X b fb) : RE X (.Compare a [.Lt] [b] pos) (cOp dLt fa fb) := re_cmp op_lt od_cmp ha hb (nomark b)
theorem re_le (ha : RE X a fa) (hb : RE X b fb) : RE X (.Compare a [.LtE] [b] pos) (cOp dLe fa fb) := re_cmp op_le od_cmp ha hb (nomark b)
theorem re_gt (ha : RE X a fa) (hb : RE X b fb) : RE X (.Compare a [.Gt] [b] pos) (cOp dGt fa fb) := re_cmp op_gt od_cmp ha hb (nomark b)
theorem re_ge (ha : RE X a fa) (hb : RE X b fb) : RE X (.Compare a [.GtE] [b] pos) (cOp dGe fa fb) := re_cmp op_ge od_cmp ha hb (nomark b)
theorem rt_lt (ha : RE X a fa) (hb : RE X b fb) : RT X (.Compare a [.Lt] [b] pos) (cT (cOp dLt fa fb)) := rt_cmp op_lt od_cmp ha hb (nomark b)
theorem rt_le (ha : RE X a fa) (hb : RE X b fb) : RT X (.Compare a [.LtE] [b] pos) (cT (cOp dLe fa fb)) := rt_cmp op_le od_cmp ha hb (nomark b)
theorem rt_gt (ha : RE X a fa) (hb : RE X b fb) : RT X (.Compare a [.Gt] [b] pos) (cT (cOp dGt fa fb)) := rt_cmp op_gt od_cmp ha hb (nomark b)
theorem rt_ge (ha : RE X a fa) (hb : RE X b fb) : RT X (.Compare a [.GtE] [b] pos) (cT (cOp dGe fa fb)) := rt_cmp op_ge od_cmp ha hb (nomark b)
end
/-- == of data -/
def dEq (a b : D) : Option D := if SeqAt.shaped a = true ∧ SeqAt.shaped b = true then some (.bool (PyData.eqv a b)) else none
def dNe (a b : D) : Option D := if SeqAt.shaped a = true ∧ SeqAt.shaped b = true then some (.bool (!PyData.eqv a b)) else none
mutual
theorem Im.up {K : Fg} {G H : Hp} (s : Same G H) : ∀ (d : D) (v : V), Im K G v d → Dp K H v d := fun d v h => Im.mono s d v h
end
theorem od_eq : OpD X (rEqD X.K) dEq := fun Y σ H G α a b d x y Q S ha hb e hQ => by
  unfold dEq at e
  split at e
  · rename_i hc
    cases e
    exact ⟨a, b, Im.mono S.le _ _ ha, Im.mono S.le _ _ hb, hc.1, hc.2, hQ _ G H S (Same.refl G) (.bl _)⟩
  · cases e
theorem od_ne : OpD X (rNeD X.K) dNe := fun Y σ H G α a b d x y Q S ha hb e hQ => by
  unfold dNe at e
  split at e
  · rename_i hc
    cases e
    exact ⟨a, b, Im.mono S.le _ _ ha, Im.mono S.le _ _ hb, hc.1, hc.2, hQ _ G H S (Same.refl G) (.bl _)⟩
  · cases e
section
variable {a b : Expr} {fa fb : Ev → Option (D × Ev)} {pos : Pos}
theorem re_eq (hu : X.A.units + 64 < cLine) (ha : RE X a fa) (hb : RE X b fb) : RE X (.Compare a [.Eq] [b] pos) (cOp dEq fa fb) := re_cmp (op_eqD hu) od_eq ha hb (nomark b)
theorem re_ne (hu : X.A.units + 64 < cLine) (ha : RE X a fa) (hb : RE X b fb) : RE X (.Compare a [.NotEq] [b] pos) (cOp dNe fa fb) := re_cmp (op_neD hu) od_ne ha hb (nomark b)
theorem rt_eq (hu : X.A.units + 64 < cLine) (ha : RE X a fa) (hb : RE X b fb) : RT X (.Compare a [.Eq] [b] pos) (cT (cOp dEq fa fb)) := rt_cmp (op_eqD hu) od_eq ha hb (nomark b)
theorem rt_ne (hu : X.A.units + 64 < cLine) (ha : RE X a fa) (hb : RE X b fb) : RT X (.Compare a [.NotEq] [b] pos) (cT (cOp dNe fa fb)) := rt_cmp (op_neD hu) od_ne ha hb (nomark b)
end
/-- is None, is True, is False -/
def isNone : D → Bool
  | .none => true
  | _ => false
def dIsN (a b : D) : Option D := match b with
  | .none => some (.bool (isNone a))
  | _ => none
def dNotN (a b : D) : Option D := match b with
  | .none => some (.bool (!isNone a))
  | _ => none
theorem isNone_im {K : Fg} {G : Hp} {v : V} {d : D} (h : Im K G v d) : decide (v = .non) = isNone d := by
  cases h <;> first | rfl | (exact decide_eq_false fun z => nomatch z)
theorem od_isN : OpD X (fun x y H Q => y = .non ∧ Q (.bl (decide (x = .non))) H) dIsN := fun Y σ H G α a b d x y Q S ha hb e hQ => by
  cases b <;> first | (cases e; done) | skip
  case none =>
    cases e
    cases hb
    rw [isNone_im ha]
    exact ⟨rfl, hQ _ G H S (Same.refl G) (.bl _)⟩
theorem od_notN : OpD X (fun x y H Q => y = .non ∧ Q (.bl (!decide (x = .non))) H) dNotN := fun Y σ H G α a b d x y Q S ha hb e hQ => by
  cases b <;> first | (cases e; done) | skip
  case none =>
    cases e
    cases hb
    rw [isNone_im ha]
    exact ⟨rfl, hQ _ G H S (Same.refl G) (.bl _)⟩
end
end Pv
set_option maxHeartbeats 4000000
/-! PvH: is, in, subscripts, slices, len, isinstance, conversions, walks, list methods. -/
namespace Pv
open PySem PySem.Spec L2

section
variable {X : Cx}
/-! ### is -/
theorem op_isB : OpR X (compareOp .Is) (fun x y H Q => ∃ b, y = .bl b ∧ Q (.bl (decide (x = .bl b))) H) := by
  intro pins s σ H x y v u Q I rx ry h
  obtain ⟨b, rfl, q⟩ := h
  cases ry
  have nb : ∀ {z : Value}, plainIs z (.bool b) = true → (z == Value.bool b) = decide (x = .bl b) → wpAny (model X.prog X.w) X.A (compareOp .Is z (.bool b)) (EP X pins σ Q) X.xe s := fun {z} h1 h2 =>
    wpAny_is_plain h1 (fin_bl I q h2.symm)
  cases x with
  | non => cases rx; exact nb rfl rfl
  | bl a => cases rx; exact nb rfl (by cases a <;> cases b <;> rfl)
  | int i => obtain ⟨t, rfl⟩ := rx; exact nb rfl rfl
  | str i => obtain ⟨t, rfl⟩ := rx; exact nb rfl rfl
  | byt i => obtain ⟨t, rfl⟩ := rx; exact nb rfl rfl
  | flt i => obtain ⟨t, rfl⟩ := rx; exact nb rfl rfl
  | ref a => cases rx; exact nb rfl rfl
  | ty n => cases rx; exact nb rfl rfl
def isBool (b : Bool) : D → Bool
  | .bool a => a == b
  | _ => false
theorem isBool_im {K : Fg} {G : Hp} {v : V} {d : D} {b : Bool} (h : Im K G v d) : decide (v = .bl b) = isBool b d := by
  cases h with
  | bl a => cases a <;> cases b <;> rfl
  | non => exact decide_eq_false fun z => nomatch z
  | int _ => exact decide_eq_false fun z => nomatch z
  | str _ => exact decide_eq_false fun z => nomatch z
  | lst _ _ => exact decide_eq_false fun z => nomatch z
  | tup _ _ => exact decide_eq_false fun z => nomatch z
def dIsB (a b : D) : Option D := match b with
  | .bool k => some (.bool (isBool k a))
  | _ => none
theorem od_isB : OpD X (fun x y H Q => ∃ b, y = .bl b ∧ Q (.bl (decide (x = .bl b))) H) dIsB := fun Y σ H G α a b d x y Q S ha hb e hQ => by
  cases b <;> first | (cases e; done) | skip
  case bool k =>
    cases e
    cases hb
    refine ⟨k, rfl, ?_⟩
    rw [isBool_im ha]
    exact hQ _ G H S (Same.refl G) (.bl _)
/-- a is None, a is True, a is False -/
def dIs (a b : D) : Option D := (dIsN a b).or (dIsB a b)
section
variable {a b : Expr} {fa fb : Ev → Option (D × Ev)} {pos : Pos}
theorem re_is (ha : RE X a fa) (hb : RE X b fb) : RE X (.Compare a [.Is] [b] pos) (cOp dIs fa fb) := re_cmp (op_isN.or op_isB) (od_isN.or od_isB) ha hb (nomark b)
theorem rt_is (ha : RE X a fa) (hb : RE X b fb) : RT X (.Compare a [.Is] [b] pos) (cT (cOp dIs fa fb)) := rt_cmp (op_isN.or op_isB) (od_isN.or od_isB) ha hb (nomark b)
theorem re_isnot (ha : RE X a fa) (hb : RE X b fb) : RE X (.Compare a [.IsNot] [b] pos) (cOp dNotN fa fb) := re_cmp op_notN od_notN ha hb (nomark b)
theorem rt_isnot (ha : RE X a fa) (hb : RE X b fb) : RT X (.Compare a [.IsNot] [b] pos) (cT (cOp dNotN fa fb)) := rt_cmp op_notN od_notN ha hb (nomark b)
end

/-! ### in a list or tuple of flat things; in a text -/
def flatD : D → Bool
  | .none => true
  | .bool _ => true
  | .int _ => true
  | .str _ => true
  | _ => false
theorem Ims.at {K : Fg} {G : Hp} {vs : List V} {ds : List D} {i : Int} {d : D} (h : Ims K G vs ds) (e : atI ds i = some d) : ∃ v, atI vs i = some v ∧ Im K G v d := by
  unfold atI at e ⊢
  rw [Ims.length h]
  obtain ⟨j, h1, h2⟩ := bind_some e
  obtain ⟨v, h3, h4⟩ := Ims.get h h2
  exact ⟨v, by rw [h1]; exact h3, h4⟩
/-! ### subscripts -/
def dIxS : D → D → Option D
  | .str z, .int i => if z.length ≤ sizeLine then (atI z.cps.toList i).bind fun c => some (.str ⟨#[c]⟩) else none
  | _, _ => none
def dIxL : D → D → Option D
  | .list xs, .int i => atI xs i
  | _, _ => none
def dIxT : D → D → Option D
  | .tuple xs, .int i => atI xs i
  | _, _ => none
def dIx (a b : D) : Option D := (dIxL a b).or ((dIxT a b).or (dIxS a b))
theorem od_ixL : OpD X (rIxL X.K) dIxL := fun Y σ H G α a b d x y Q S ha hb e hQ => by
  cases a <;> cases b <;> first | (cases e; done) | skip
  case list.int xs i =>
    cases hb
    cases ha with
    | lst h1 r1 =>
      obtain ⟨v, e1, r⟩ := Ims.at r1 e
      exact ⟨_, _, _, v, rfl, rfl, S.le.seq h1, e1, hQ v G H S (Same.refl G) r⟩
theorem od_ixT : OpD X (rIxT X.K) dIxT := fun Y σ H G α a b d x y Q S ha hb e hQ => by
  cases a <;> cases b <;> first | (cases e; done) | skip
  case tuple.int xs i =>
    cases hb
    cases ha with
    | tup h1 r1 =>
      obtain ⟨v, e1, r⟩ := Ims.at r1 e
      exact ⟨_, _, _, v, rfl, rfl, seqT_mono S.le h1, e1, hQ v G H S (Same.refl G) r⟩
theorem od_ixS : OpD X rIxS dIxS := fun Y σ H G α a b d x y Q S ha hb e hQ => by
  cases a <;> cases b <;> first | (cases e; done) | skip
  case str.int z i =>
    cases ha
    cases hb
    simp only [dIxS] at e
    split at e
    · obtain ⟨c, h1, h2⟩ := bind_some e
      cases h2
      exact ⟨z, i, c, rfl, rfl, by assumption, h1, hQ _ G H S (Same.refl G) (.str _)⟩
    · cases e
theorem re_ix {a b : Expr} {fa fb : Ev → Option (D × Ev)} {pos : Pos} (ha : RE X a fa) (hb : RE X b fb) (hs : PlainIx b := by exact fun _ _ => rfl) : RE X (.Subscript a b pos) (cOp dIx fa fb) := by
  obtain ⟨ta, pa, ka⟩ := ha
  obtain ⟨tb, pb, kb⟩ := hb
  refine ⟨_, pe_ix ix_seq pa pb hs, fun Y σ H G α d α' Q S hf hQ => ?_⟩
  obtain ⟨⟨d1, α1⟩, h1, hf⟩ := bind_some hf
  obtain ⟨⟨d2, α2⟩, h2, hf⟩ := bind_some hf
  obtain ⟨d3, h3, hf⟩ := bind_some hf
  cases hf
  exact two_run (a := a) (b := b) ka kb S h1 h2 fun x y G' H' S' s' rx ry => (od_ixL.or (od_ixT.or od_ixS)) Y σ H' G' _ d1 d2 _ x y Q S' rx ry h3 fun v G2 H2 S2 s2 r2 => hQ v G2 H2 S2 (s'.trans s2) r2

/-! ### slices -/
def cutD (xs : List D) (lo hi : Option Int) : List D := (xs.drop (HT.sIx xs.length 0 lo)).take (HT.sIx xs.length xs.length hi - HT.sIx xs.length 0 lo)
/-- a part of a slice -/
def RP (X : Cx) (e : Option Expr) (f : Ev → Option (Option Int × Ev)) : Prop :=
  ∃ t, PO X e t ∧ ∀ (Y : Ent) (σ : L2.St) (H G : Hp) (α : Ev) (b : Option Int) (α' : Ev) (Q : Option Int → Hp → Prop), SR X.K Y G H σ α → f α = some (b, α') →
    (∀ G' H', SR X.K Y G' H' σ α' → Same G G' → Q b H') → t σ H Q
def cNoP : Ev → Option (Option Int × Ev) := fun α => some (none, α)
def asInt : D → Option Int
  | .int i => some i
  | _ => none
def cPart (f : Ev → Option (D × Ev)) : Ev → Option (Option Int × Ev) := fun α => (f α).bind fun p => (asInt p.1).bind fun i => some (some i, p.2)
theorem rp_none : RP X none cNoP := ⟨_, po_none, fun Y σ H G α b α' Q S hf hQ => by cases hf; exact hQ G H S (Same.refl G)⟩
theorem rp_some {e : Expr} {f : Ev → Option (D × Ev)} (h : RE X e f) : RP X (some e) (cPart f) := by
  obtain ⟨t, p, k⟩ := h
  refine ⟨_, po_some p, fun Y σ H G α b α' Q S hf hQ => ?_⟩
  obtain ⟨⟨d1, α1⟩, h1, hf⟩ := bind_some hf
  obtain ⟨i, h2, hf⟩ := bind_some hf
  cases hf
  refine k Y σ H G α d1 α1 _ S h1 fun v G1 H1 S1 s1 r1 => ?_
  have h2 : asInt d1 = some i := h2
  cases d1 <;> first | (cases h2; done) | skip
  case int j =>
    cases h2
    cases r1
    exact ⟨_, rfl, hQ G1 H1 S1 s1⟩
/-- a slice, read only from then on -/
def dSl (a : D) (lo hi : Option Int) : Option D := match a with
  | .list xs => some (.list (cutD xs lo hi))
  | .tuple xs => some (.tuple (cutD xs lo hi))
  | .str z => if z.length ≤ sizeLine then some (.str (cutS z lo hi)) else none
  | _ => none
def cSl (fa : Ev → Option (D × Ev)) (fl fh : Ev → Option (Option Int × Ev)) : Ev → Option (D × Ev) := fun α =>
  (fa α).bind fun p => (fl p.2).bind fun q => (fh q.2).bind fun r => (dSl p.1 q.1 r.1).bind fun d => some (d, r.2)
theorem Ims.cut {K : Fg} {G : Hp} {vs : List V} {ds : List D} (h : Ims K G vs ds) (lo hi : Option Int) : Ims K G (cutV vs lo hi) (cutD ds lo hi) := by
  unfold cutV cutD
  rw [Ims.length h]
  exact Ims.take _ (Ims.drop _ h)
end
end Pv
set_option maxHeartbeats 4000000
/-! PvI: slices, len, isinstance, conversions, walks, list methods. -/
namespace HT
open PySem PySem.Spec PyProof.Rows
section
variable {prog : Program} {w : World} {A : Around} {E : Value → Shared → Prop} {s : Shared}
theorem getItem_tuple_whole {t sl : Addr} {items : Array Value} {vl vu : Value} {lo hi : Option Int} {Q : Value → Shared → Prop} (ht : IsTup s.heap t items) (hs : s.heap.IsSliceOf sl vl vu .none) (pl : IsPart vl lo) (pu : IsPart vu hi)
    (hw : sIx items.size 0 lo = 0 ∧ sIx items.size items.size hi = items.size) (h : Q (.ref t) s) : wpAny (model prog w) A (getItem (.ref t) (.ref sl)) Q E s := by
  obtain ⟨os, hos, hcs, hds⟩ := id hs
  have hTs : s.TypeIs (.ref sl) "slice" := ⟨os, hos, hcs⟩
  unfold getItem
  try with_reducible refine wpAny_holding ?_
  first | refine wpAny_bind (wpAny_pure ?_) | skip
  refine wpAny_bind (wpAny_sequenceKey ht.typeIs (by decide) ?_)
  refine wpAny_bind (wpAny_callSpecial?_slot (name := Str.ofString "__getitem__") ht.typeIs PyProof.Rows.slot_tuple_getitem
    (wpAny_call_entry PyProof.Rows.slot_tuple_getitem ht.typeIs entry_tuple_getitem ?_ (args_tuple_getitem _ _)))
  show wpAny _ _ (Builtin.Tuple.tupleItemsOf (.ref t) >>= _) _ _ s
  refine wpAny_bind (tupleItemsOf_ ht ?_)
  refine wpAny_bind (wpAny_typeOf hTs ?_)
  rw [if_pos (by decide)]
  refine wpAny_bind (sliceApplied_gen hs pl pu ?_)
  have hno : (((sIx items.size 0 lo : Nat) : Int) == 0 && (1 : Int) == 1 && (sIx items.size items.size hi - sIx items.size 0 lo) == items.size) = true := by
    rw [hw.1, hw.2]; simp
  show wpAny _ _ (if (((sIx items.size 0 lo : Nat) : Int) == 0 && (1 : Int) == 1 && (sIx items.size items.size hi - sIx items.size 0 lo) == items.size) = true then _ else _) _ _ s
  rw [if_pos hno]
  refine wpAny_bind (m := Builtin.Tuple.tupleIsExact _) (wpAny_bind (wpAny_typeOf ht.typeIs (wpAny_pure ?_)))
  rw [if_pos (beq_self_eq_true (Value.type "tuple"))]
  exact wpAny_bind (wpAny_rule (wpAny_pure ⟨_, rfl, wpAny_pure h⟩))
end
end HT

namespace Pv
open PySem PySem.Spec L2
section
variable {X : Cx}
/-- t[lo:hi], the whole of it: t itself -/
def rSlTW (K : PySem.W.Frag) : V → Option Int → Option Int → Hp → VK → Prop := fun x lo hi H Q => ∃ a xs, x = .ref a ∧ SqT K H a xs ∧
  (HT.sIx xs.length 0 lo = 0 ∧ HT.sIx xs.length xs.length hi = xs.length) ∧ Q (.ref a) H
theorem sl_tupW : SlR X (rSlTW X.K) := by
  intro pins s σ H x v vl vu lo hi sl Q I rx hs pl pu h
  obtain ⟨a, xs, rfl, hx, hw, q⟩ := h
  cases rx
  obtain ⟨its, r, ht, hz⟩ := I.tuple hx
  have hlen : its.toArray.size = xs.length := by rw [List.size_toArray]; exact r.length.symm
  refine ⟨"tuple", _, PyProof.Rows.slot_tuple_getitem.lookup, ht.typeIs, ?_⟩
  exact HT.getItem_tuple_whole ht hs pl pu (by rw [hlen]; exact hw) ⟨.ref a, H, I, rfl, q⟩
theorem cutD_whole {xs : List D} {lo hi : Option Int} (h : HT.sIx xs.length 0 lo = 0 ∧ HT.sIx xs.length xs.length hi = xs.length) : cutD xs lo hi = xs := by
  unfold cutD
  rw [h.1, h.2]
  simp
theorem sl_run {Y : Ent} {σ : L2.St} {H G : Hp} {α : Ev} {a d : D} {o1 o2 : Option Int} {v : V} {Q : VK} (S : SR X.K Y G H σ α) (r : Im X.K G v a) (h : dSl a o1 o2 = some d)
    (hQ : ∀ v G' H', SR X.K Y G' H' σ α → Same G G' → Im X.K G' v d → Q v H') : rSlL X.K v o1 o2 H Q ∨ rSlT X.K v o1 o2 H Q ∨ rSlTW X.K v o1 o2 H Q ∨ rSlS v o1 o2 H Q := by
  cases a <;> first | (cases h; done) | skip
  case list xs =>
    cases h
    cases r with
    | lst hs ha =>
      refine .inl ⟨_, _, rfl, S.le.seq hs, fun q hq => ?_⟩
      exact hQ _ _ _ (S.cold (o := .lst _) hq) (S.sameG hq) (.lst (.inl (.inl upd_same)) (Ims.mono (S.sameG hq) _ _ (Ims.cut ha o1 o2)))
  case tuple xs =>
    have e4 : d = .tuple (cutD xs o1 o2) := (Option.some.inj h).symm
    subst e4
    cases r with
    | @tup a vs _ hs ha =>
      have hl := Ims.length ha
      by_cases hw : HT.sIx xs.length 0 o1 = 0 ∧ HT.sIx xs.length xs.length o2 = xs.length
      · refine .inr (.inr (.inl ⟨_, _, rfl, seqT_mono S.le hs, by rw [hl]; exact hw, ?_⟩))
        rw [cutD_whole hw] at hQ
        exact hQ _ G H S (Same.refl G) (.tup hs ha)
      · refine .inr (.inl ⟨_, _, rfl, seqT_mono S.le hs, by rw [hl]; exact hw, fun q hq => ?_⟩)
        exact hQ _ _ _ (S.cold (o := .tup _) hq) (S.sameG hq) (.tup (.inl (.inl upd_same)) (Ims.mono (S.sameG hq) _ _ (Ims.cut ha o1 o2)))
  case str z =>
    simp only [dSl] at h
    split at h
    · cases h
      cases r
      exact .inr (.inr (.inr ⟨z, rfl, by assumption, hQ _ G H S (Same.refl G) (.str _)⟩))
    · cases h
theorem re_slice {e : Expr} {lo hi : Option Expr} {p2 pos : Pos} {fa : Ev → Option (D × Ev)} {fl fh : Ev → Option (Option Int × Ev)} (he : RE X e fa) (hl : RP X lo fl) (hh : RP X hi fh) : RE X (.Subscript e (.Slice lo hi none p2) pos) (cSl fa fl fh) := by
  obtain ⟨t, p, k⟩ := he
  obtain ⟨tl, pl, kl⟩ := hl
  obtain ⟨th, ph, kh⟩ := hh
  refine ⟨_, pe_slice (sl_list.or (sl_tup.or (sl_tupW.or sl_str))) p pl ph, fun Y σ H G α d α' Q S hf hQ => ?_⟩
  obtain ⟨⟨d1, α1⟩, h1, hf⟩ := bind_some hf
  obtain ⟨⟨o1, α2⟩, h2, hf⟩ := bind_some hf
  obtain ⟨⟨o2, α3⟩, h3, hf⟩ := bind_some hf
  obtain ⟨d2, h4, hf⟩ := bind_some hf
  cases hf
  refine k Y σ H G α d1 α1 _ S h1 fun v G1 H1 S1 s1 r1 => kl Y σ H1 G1 α1 o1 α2 _ S1 h2 fun G2 H2 S2 s2 => kh Y σ H2 G2 α2 o2 _ _ S2 h3 fun G3 H3 S3 s3 => ?_
  exact sl_run S3 (Im.mono (s2.trans s3) _ _ r1) h4 fun v G' H' S' s' r' => hQ v G' H' S' (s1.trans (s2.trans (s3.trans s'))) r'

/-! ### built-ins by name -/
/-- a call of a built-in, by what it gives for data -/
def CalD (X : Cx) (r : List V → Hp → VK → Prop) (g : List D → Option D) : Prop :=
  ∀ (Y : Ent) (σ : L2.St) (H G : Hp) (α : Ev) (as : List D) (d : D) (xs : List V) (Q : VK), SR X.K Y G H σ α → Ims X.K G xs as → g as = some d →
    (∀ v G' H', SR X.K Y G' H' σ α → Same G G' → Im X.K G' v d → Q v H') → r xs H Q
theorem CalD.or {r r' : List V → Hp → VK → Prop} {g g' : List D → Option D} (h : CalD X r g) (h' : CalD X r' g') : CalD X (fun xs H Q => r xs H Q ∨ r' xs H Q) (fun as => (g as).or (g' as)) :=
  fun Y σ H G α as d xs Q S ha hg hQ => by
    cases q : g as with
    | some z =>
      simp only [q, Option.some_or] at hg
      exact .inl (h Y σ H G α as d xs Q S ha (q.trans hg) hQ)
    | none =>
      simp only [q, Option.none_or] at hg
      exact .inr (h' Y σ H G α as d xs Q S ha hg hQ)
def cBlt (g : List D → Option D) (f : Ev → Option (List D × Ev)) : Ev → Option (D × Ev) := fun α => (f α).bind fun p => (g p.1).bind fun d => some (d, p.2)
theorem re_callB {x : Str} {id : String} {e : Expr} {es : List Expr} {p pos : Pos} {r : List V → Hp → VK → Prop} {g : List D → Option D} {f : Ev → Option (List D × Ev)} (hc : CallR X (.builtin id) r) (hd : CalD X r g) (hg : Gl X x) (hm : X.mg x = none) (hv : bootBuiltins x = some (.builtin id))
    (ha : RA X (e :: es) f) (hn : x ≠ "__name__" := by decide) (hdb : (x == ("__debug__" : Str)) = false := by decide) (he : starEach (e :: es) X.env = (false, eval e X.env) :: starEach es X.env := by rfl) (hpl : (backTo pos (starEach es X.env)).any (·.1) = false := by rfl) :
    RE X (.Call (.Name x p) (e :: es) [] pos) (cBlt g f) := by
  obtain ⟨t, pa, ka⟩ := ha
  refine ⟨_, pe_callB hc hg hm hv pa hn hdb he hpl, fun Y σ H G α d α' Q S hf hQ => ?_⟩
  obtain ⟨⟨ds, α1⟩, h1, hf⟩ := bind_some hf
  obtain ⟨d2, h2, hf⟩ := bind_some hf
  cases hf
  exact ka Y σ H G α ds α1 _ S h1 fun vs G1 H1 S1 s1 r1 => hd Y σ H1 G1 _ ds d vs Q S1 r1 h2 fun v G2 H2 S2 s2 r2 => hQ v G2 H2 S2 (s1.trans s2) r2
theorem re_callTy {x : Str} {T : String} {e : Expr} {es : List Expr} {p pos : Pos} {r : List V → Hp → VK → Prop} {g : List D → Option D} {f : Ev → Option (List D × Ev)} (hc : CallR X (.type T) r) (hd : CalD X r g) (hg : Gl X x) (hm : X.mg x = none) (hv : bootBuiltins x = some (.type T))
    (ha : RA X (e :: es) f) (hn : x ≠ "__name__" := by decide) (hdb : (x == ("__debug__" : Str)) = false := by decide) (he : starEach (e :: es) X.env = (false, eval e X.env) :: starEach es X.env := by rfl) (hpl : (backTo pos (starEach es X.env)).any (·.1) = false := by rfl) :
    RE X (.Call (.Name x p) (e :: es) [] pos) (cBlt g f) := by
  obtain ⟨t, pa, ka⟩ := ha
  refine ⟨_, pe_callTy hc hg hm hv pa hn hdb he hpl, fun Y σ H G α d α' Q S hf hQ => ?_⟩
  obtain ⟨⟨ds, α1⟩, h1, hf⟩ := bind_some hf
  obtain ⟨d2, h2, hf⟩ := bind_some hf
  cases hf
  exact ka Y σ H G α ds α1 _ S h1 fun vs G1 H1 S1 s1 r1 => hd Y σ H1 G1 _ ds d vs Q S1 r1 h2 fun v G2 H2 S2 s2 r2 => hQ v G2 H2 S2 (s1.trans s2) r2
/-- len -/
def bLen : List D → Option D
  | [.list xs] => some (.int xs.length)
  | [.tuple xs] => some (.int xs.length)
  | [.str z] => if z.length ≤ sizeLine then some (.int z.length) else none
  | _ => none
theorem cd_len : CalD X (fun xs H Q => (∃ p ys, xs = [.ref p] ∧ (SqL X.K H p ys ∨ SqT X.K H p ys) ∧ Q (.int ys.length) H) ∨ (∃ z, xs = [.str z] ∧ z.length ≤ sizeLine ∧ Q (.int z.length) H)) bLen :=
  fun Y σ H G α as d xs Q S ha hg hQ => by
    match as, hg with
    | [.list ys], hg =>
      cases hg
      cases ha with
      | cons h1 h2 =>
        cases h2
        cases h1 with
        | lst hs hh => exact .inl ⟨_, _, rfl, .inl (S.le.seq hs), by rw [Ims.length hh]; exact hQ _ G H S (Same.refl G) (.int _)⟩
    | [.tuple ys], hg =>
      cases hg
      cases ha with
      | cons h1 h2 =>
        cases h2
        cases h1 with
        | tup hs hh => exact .inl ⟨_, _, rfl, .inr (seqT_mono S.le hs), by rw [Ims.length hh]; exact hQ _ G H S (Same.refl G) (.int _)⟩
    | [.str z], hg =>
      simp only [bLen] at hg
      split at hg
      · cases hg
        cases ha with
        | cons h1 h2 =>
          cases h2
          cases h1
          exact .inr ⟨z, rfl, by assumption, hQ _ G H S (Same.refl G) (.int _)⟩
      · cases hg
theorem re_len {e : Expr} {p pos : Pos} {f : Ev → Option (D × Ev)} (hg : Gl X "len") (hm : X.mg "len" = none) (ha : RE X e f) (hs : starEach [e] X.env = (false, eval e X.env) :: starEach [] X.env := by rfl) (hpl : (backTo pos (starEach [] X.env)).any (·.1) = false := by rfl) :
    RE X (.Call (.Name "len" p) [e] [] pos) (cBlt bLen (cACons f cANil)) :=
  re_callB (call_len_seq.or call_len_str) cd_len hg hm PySem.boot_len (ra_cons ha ra_nil hs) (by decide) (by decide) hs hpl
/-- int -/
def bInt : List D → Option D
  | [.int i] => some (.int i)
  | [.bool b] => some (.int (if b then 1 else 0))
  | _ => none
theorem cd_int : CalD X (fun xs H Q => (∃ i, xs = [.int i] ∧ Q (.int i) H) ∨ ∃ k, xs = [.bl k] ∧ Q (.int (if k then 1 else 0)) H) bInt :=
  fun Y σ H G α as d xs Q S ha hg hQ => by
    match as, hg with
    | [.int i], hg =>
      cases hg
      cases ha with
      | cons h1 h2 =>
        cases h2
        cases h1
        exact .inl ⟨_, rfl, hQ _ G H S (Same.refl G) (.int _)⟩
    | [.bool b], hg =>
      cases hg
      cases ha with
      | cons h1 h2 =>
        cases h2
        cases h1
        exact .inr ⟨_, rfl, hQ _ G H S (Same.refl G) (.int _)⟩
theorem re_int1 {e : Expr} {p pos : Pos} {f : Ev → Option (D × Ev)} (hg : Gl X "int") (hm : X.mg "int" = none) (ha : RE X e f) (hs : starEach [e] X.env = (false, eval e X.env) :: starEach [] X.env := by rfl) (hpl : (backTo pos (starEach [] X.env)).any (·.1) = false := by rfl) :
    RE X (.Call (.Name "int" p) [e] [] pos) (cBlt bInt (cACons f cANil)) :=
  re_callTy call_int1 cd_int hg hm (by decide +kernel) (ra_cons ha ra_nil hs) (by decide) (by decide) hs hpl
/-- abs -/
def bAbs : List D → Option D
  | [.int i] => some (.int (if i < 0 then -i else i))
  | _ => none
theorem cd_abs : CalD X (fun xs H Q => ∃ i, xs = [.int i] ∧ Q (.int (if i < 0 then -i else i)) H) bAbs := fun Y σ H G α as d xs Q S ha hg hQ => by
    match as, hg with
    | [.int i], hg =>
      cases hg
      cases ha with
      | cons h1 h2 =>
        cases h2
        cases h1
        exact ⟨_, rfl, hQ _ G H S (Same.refl G) (.int _)⟩
/-- tuple(xs) -/
def bTup : List D → Option D
  | [.list xs] => some (.tuple xs)
  | [.tuple xs] => some (.tuple xs)
  | _ => none
theorem cd_tup : CalD X (fun xs H Q => ∃ p ys, xs = [.ref p] ∧ ((SqL X.K H p ys ∧ ∀ l, H l = none → Q (.ref l) (upd H l (.tup ys))) ∨ (SqT X.K H p ys ∧ Q (.ref p) H))) bTup :=
  fun Y σ H G α as d xs Q S ha hg hQ => by
    match as, hg with
    | [.list ys], hg =>
      cases hg
      cases ha with
      | cons h1 h2 =>
        cases h2
        cases h1 with
        | lst hs hh => exact ⟨_, _, rfl, .inl ⟨S.le.seq hs, fun l hl => hQ _ _ _ (S.cold (o := .tup _) hl) (S.sameG hl) (.tup (.inl (.inl upd_same)) (Ims.mono (S.sameG hl) _ _ hh))⟩⟩
    | [.tuple ys], hg =>
      cases hg
      cases ha with
      | cons h1 h2 =>
        cases h2
        cases h1 with
        | tup hs hh => exact ⟨_, _, rfl, .inr ⟨seqT_mono S.le hs, hQ _ G H S (Same.refl G) (.tup hs hh)⟩⟩
theorem re_tuple1 {e : Expr} {p pos : Pos} {f : Ev → Option (D × Ev)} (hg : Gl X "tuple") (hm : X.mg "tuple" = none) (ha : RE X e f) (hs : starEach [e] X.env = (false, eval e X.env) :: starEach [] X.env := by rfl) (hpl : (backTo pos (starEach [] X.env)).any (·.1) = false := by rfl) :
    RE X (.Call (.Name "tuple" p) [e] [] pos) (cBlt bTup (cACons f cANil)) :=
  re_callTy call_tuple_of cd_tup hg hm (by decide +kernel) (ra_cons ha ra_nil hs) (by decide) (by decide) hs hpl
/-- str(n) -/
def bStrI : List D → Option D
  | [.int i] => if i.natAbs.log2 < 1920 then some (.str (toString i)) else none
  | _ => none
theorem cd_strI : CalD X (fun xs H Q => ∃ i, xs = [.int i] ∧ i.natAbs.log2 < 1920 ∧ Q (.str (toString i)) H) bStrI := fun Y σ H G α as d xs Q S ha hg hQ => by
    match as, hg with
    | [.int i], hg =>
      simp only [bStrI] at hg
      split at hg
      · cases hg
        cases ha with
        | cons h1 h2 =>
          cases h2
          cases h1
          exact ⟨_, rfl, by assumption, hQ _ G H S (Same.refl G) (.str _)⟩
      · cases hg
theorem re_str1 {e : Expr} {p pos : Pos} {f : Ev → Option (D × Ev)} (hg : Gl X "str") (hm : X.mg "str" = none) (ha : RE X e f) (hs : starEach [e] X.env = (false, eval e X.env) :: starEach [] X.env := by rfl) (hpl : (backTo pos (starEach [] X.env)).any (·.1) = false := by rfl) :
    RE X (.Call (.Name "str" p) [e] [] pos) (cBlt bStrI (cACons f cANil)) :=
  re_callTy call_str_int cd_strI hg hm (by decide +kernel) (ra_cons ha ra_nil hs) (by decide) (by decide) hs hpl
/-- isinstance(x, T) -/
def kindD : D → String
  | .none => "NoneType"
  | .bool _ => "bool"
  | .int _ => "int"
  | .str _ => "str"
  | .list _ => "list"
  | .tuple _ => "tuple"
  | .dict _ => "dict"
def cIsi (T : String) (f : Ev → Option (D × Ev)) : Ev → Option (D × Ev) := fun α => (f α).bind fun p => (kitB (kindD p.1) T).bind fun b => some (.bool b, p.2)
theorem typ_of {K : Fg} {G H : Hp} (s : Same G H) {v : V} {d : D} (h : Im K G v d) : TyX K H v (.type (kindD d)) := by
  cases h with
  | non => exact .base .non
  | bl b => exact .base (.bl b)
  | int i => exact .base (.int i)
  | str x => exact .base (.str x)
  | lst hs _ =>
    rcases hs with (h | ⟨o, h⟩) | ⟨o, its, n, h1, h2, _⟩
    · exact .base (.lst (s _ _ h))
    · exact .base (.frz (s _ _ h))
    · exact .kList h1 h2
  | tup hs _ =>
    rcases hs with (h | ⟨o, h⟩) | ⟨o, its, n, h1, h2, _⟩
    · exact .base (.tup (s _ _ h))
    · exact .fTuple (s _ _ h)
    · exact .kTuple h1 h2
theorem re_isi {T : String} {tx : Str} {e : Expr} {p pos pt : Pos} {f : Ev → Option (D × Ev)} (hg : Gl X "isinstance") (hm : X.mg "isinstance" = none) (hgt : Gl X tx) (hmt : X.mg tx = none) (hvt : bootBuiltins tx = some (.type T)) (ha : RE X e f)
    (hnt : tx ≠ "__name__" := by decide) (hdt : (tx == ("__debug__" : Str)) = false := by decide)
    (hs : starEach [e, .Name tx pt] X.env = (false, eval e X.env) :: starEach [.Name tx pt] X.env := by rfl) (hs2 : starEach [.Name tx pt] X.env = (false, eval (.Name tx pt) X.env) :: starEach [] X.env := by rfl)
    (hpl : (backTo pos (starEach [.Name tx pt] X.env)).any (·.1) = false := by rfl) :
    RE X (.Call (.Name "isinstance" p) [e, .Name tx pt] [] pos) (cIsi T f) := by
  obtain ⟨t, pa, ka⟩ := ha
  refine ⟨_, pe_callB call_isi hg hm (by decide +kernel) (pa_cons pa (pa_cons (pe_bltn (v := .ty T) hgt hmt hvt rfl hnt hdt) pa_nil hs2) hs) (by decide) (by decide) hs hpl, fun Y σ H G α d α' Q S hf hQ => ?_⟩
  obtain ⟨⟨d1, α1⟩, h1, hf⟩ := bind_some hf
  obtain ⟨b, h2, hf⟩ := bind_some hf
  cases hf
  refine ka Y σ H G α d1 α1 _ S h1 fun v G1 H1 S1 s1 r1 => ?_
  exact ⟨v, .ty T, _, _, b, rfl, .ty T, typ_of S1.le r1, kit_ty h2, hQ _ G1 H1 S1 s1 (.bl b)⟩
end
end Pv
set_option maxHeartbeats 4000000
/-! PvJ: what is walked; methods of owned lists; the end of a law. -/
namespace Pv
open PySem PySem.Spec L2
section
variable {X : Cx} {tg : Expr}
/-- a list or a tuple -/
def iSeq (K : PySem.W.Frag) (tl : TE) : TI := fun σ H R => tl σ H fun x H1 => ∃ a, x = .ref a ∧ (((∃ xs, SqL K H1 a xs) ∧ R (Itl K a) H1) ∨ ((∃ xs, SqT K H1 a xs) ∧ R (Itt K a) H1))
theorem pi_seq {l : Expr} {tl : TE} (hl : PE X l tl) : PI X tg l (iSeq X.K tl) := by
  refine ⟨fun pins s σ H R I h => ?_⟩
  refine thn (hl.run pins s σ H _ I h) fun v s1 ⟨x, H1, I1, r1, q1⟩ => ?_
  obtain ⟨a, e, q⟩ := q1
  subst e
  cases r1
  rcases q with ⟨⟨xs, hq⟩, q⟩ | ⟨⟨xs, hq⟩, q⟩
  · obtain ⟨its, rv, p, hz⟩ := I1.list hq
    refine wpAny_pyIter_list p.isList ?_
    refine ⟨s1.heap.objs.size, [s1.heap.objs.size], _, _, H1, rfl, I1.kept (t' := s1.toks) fun b o e => Heap.get?_push_of_some _ e, turn_list a _, ⟨_, Heap.get?_push_size _ rfl, rfl, rfl⟩, fun b hb => ?_, q⟩
    have e : b = s1.heap.objs.size := by simpa using hb
    subst e
    exact I1.fpOk (Nat.le_refl _) (I1.hok.fresh (Nat.le_refl _))
  · obtain ⟨its, rv, p, hz⟩ := I1.tuple hq
    refine wpAny_pyIter_tuple (show s1.heap.IsTuple a its.toArray from p) ?_
    refine ⟨s1.heap.objs.size, [s1.heap.objs.size], _, _, H1, rfl, I1.kept (t' := s1.toks) fun b o e => Heap.get?_push_of_some _ e, turn_tuple a _, ⟨_, Heap.get?_push_size _ rfl, rfl, rfl⟩, fun b hb => ?_, q⟩
    have e : b = s1.heap.objs.size := by simpa using hb
    subst e
    exact I1.fpOk (Nat.le_refl _) (I1.hok.fresh (Nat.le_refl _))
/-- two readings of what stands at one address agree -/
theorem seqL_item {K : Fg} {G : Hp} {a : Addr} {vs : List V} (h : SqL K G a vs) {H : Hp} (s : Same G H) {xs : List V} : True := trivial
def itemsD : D → Option (List D)
  | .list xs => some xs
  | .tuple xs => some xs
  | _ => none
def cItems (f : Ev → Option (D × Ev)) : Ev → Option (List D × Ev) := fun α => (f α).bind fun p => (itemsD p.1).bind fun xs => some (xs, p.2)
theorem walk_list {K : Fg} {G : Hp} {a : Addr} {vs : List V} {ds : List D} (h : SqL K G a vs) (r : Ims K G vs ds) : Walk K (Itl K a) (fun _ _ => True) G ds := by
  intro Y i σ G1 H1 α S s _
  have h1 : SqL K H1 a vs := S.le.seq (s.seq h)
  refine ⟨fun e => ⟨vs, h1, by rw [Ims.length r]; exact List.getElem?_eq_none_iff.mp e⟩, fun d e => ?_⟩
  obtain ⟨v, e1, r1⟩ := Ims.get r e
  exact ⟨⟨vs, v, h1, e1⟩, fun x H' hy => by
    obtain ⟨rfl, hy⟩ := hy
    have e2 := hy vs h1
    rw [e1] at e2; cases e2
    exact ⟨G1, S, Same.refl _, Im.mono s _ _ r1⟩⟩
theorem walk_tup {K : Fg} {G : Hp} {a : Addr} {vs : List V} {ds : List D} (h : SqT K G a vs) (r : Ims K G vs ds) : Walk K (Itt K a) (fun _ _ => True) G ds := by
  intro Y i σ G1 H1 α S s _
  have h1 : SqT K H1 a vs := seqT_mono S.le (seqT_mono s h)
  refine ⟨fun e => ⟨vs, h1, by rw [Ims.length r]; exact List.getElem?_eq_none_iff.mp e⟩, fun d e => ?_⟩
  obtain ⟨v, e1, r1⟩ := Ims.get r e
  exact ⟨⟨vs, v, h1, e1⟩, fun x H' hy => by
    obtain ⟨rfl, hy⟩ := hy
    have e2 := hy vs h1
    rw [e1] at e2; cases e2
    exact ⟨G1, S, Same.refl _, Im.mono s _ _ r1⟩⟩
theorem ri_seq {e : Expr} {f : Ev → Option (D × Ev)} (he : RE X e f) : RI X tg e (cItems f) := by
  obtain ⟨t, p, k⟩ := he
  refine ⟨_, pi_seq p, fun Y σ H G α ds α' R S hf hQ => ?_⟩
  obtain ⟨⟨d, α1⟩, h1, hf⟩ := bind_some hf
  obtain ⟨xs, h2, hf⟩ := bind_some hf
  cases hf
  refine k Y σ H G α d α1 _ S h1 fun v G1 H1 S1 s1 r1 => ?_
  have h2 : itemsD d = some ds := h2
  cases d <;> first | (cases h2; done) | skip
  case list ys =>
    cases h2
    cases r1 with
    | lst hs ha => exact ⟨_, rfl, .inl ⟨⟨_, S1.le.seq hs⟩, hQ _ G1 H1 S1 s1 (walk_list hs ha)⟩⟩
  case tuple ys =>
    cases h2
    cases r1 with
    | tup hs ha => exact ⟨_, rfl, .inr ⟨⟨_, seqT_mono S1.le hs⟩, hQ _ G1 H1 S1 s1 (walk_tup hs ha)⟩⟩
/-- range -/
def rngD (lo : Int) (n : Nat) : List D := (List.range n).map fun i : Nat => .int (lo + (i : Int))
theorem walk_rng {K : Fg} {G : Hp} {lo : Int} {n : Nat} : Walk K (Itr lo n) (fun _ _ => True) G (rngD lo n) := by
  intro Y i σ G1 H1 α S s _
  unfold rngD
  refine ⟨fun e => ?_, fun d e => ?_⟩
  · rw [List.getElem?_eq_none_iff, List.length_map, List.length_range] at e
    exact e
  · rw [List.getElem?_map] at e
    by_cases hi : i < n
    · rw [List.getElem?_range hi] at e
      cases e
      exact ⟨hi, fun x H' hy => by
        obtain ⟨rfl, rfl⟩ := hy
        exact ⟨G1, S, Same.refl _, .int _⟩⟩
    · rw [List.getElem?_eq_none (by simp; omega)] at e
      cases e
def rngOk (i : Int) : Bool := decide (i.natAbs < 2 ^ 62)
theorem rngOk_spec {i : Int} (h : rngOk i = true) : -(2 ^ 62) ≤ i ∧ i < 2 ^ 62 := by
  unfold rngOk at h
  have h := of_decide_eq_true h
  omega
def cRng1 (f : Ev → Option (D × Ev)) : Ev → Option (List D × Ev) := fun α => (f α).bind fun p => (asInt p.1).bind fun j => if rngOk j = true then some (rngD 0 j.toNat, p.2) else none
def cRng2 (f g : Ev → Option (D × Ev)) : Ev → Option (List D × Ev) := fun α => (f α).bind fun p => (g p.2).bind fun q => (asInt p.1).bind fun i => (asInt q.1).bind fun j => if rngOk i = true ∧ rngOk j = true then some (rngD i (j - i).toNat, q.2) else none
theorem asInt_spec {d : D} {i : Int} (h : asInt d = some i) : d = .int i := by
  cases d <;> first | (cases h; done) | (cases h; rfl)
theorem ri_range1 {a : Expr} {f : Ev → Option (D × Ev)} {p pos : Pos} (hg : Gl X "range") (hm : X.mg "range" = none) (ha : RE X a f) (hs : starEach [a] X.env = [(false, eval a X.env)] := by rfl) : RI X tg (.Call (.Name "range" p) [a] [] pos) (cRng1 f) := by
  obtain ⟨t, pa, k⟩ := ha
  refine ⟨_, pi_range1 hg hm (pa_cons pa pa_nil hs) hs, fun Y σ H G α ds α' R S hf hQ => ?_⟩
  obtain ⟨⟨d, α1⟩, h1, hf⟩ := bind_some hf
  obtain ⟨j, h2, hf⟩ := bind_some hf
  split at hf
  · rename_i hr
    cases hf
    refine k Y σ H G α d α1 _ S h1 fun v G1 H1 S1 s1 r1 => ?_
    have h2 : d = .int j := asInt_spec h2
    subst h2
    cases r1
    have hr := rngOk_spec hr
    exact ⟨j, rfl, hr.1, hr.2, hQ _ G1 H1 S1 s1 walk_rng⟩
  · cases hf
theorem ri_range2 {a b : Expr} {f g : Ev → Option (D × Ev)} {p pos : Pos} (hg : Gl X "range") (hm : X.mg "range" = none) (ha : RE X a f) (hb : RE X b g) (hs : starEach [a, b] X.env = [(false, eval a X.env), (false, eval b X.env)] := by rfl) (hs2 : starEach [b] X.env = [(false, eval b X.env)] := by rfl) :
    RI X tg (.Call (.Name "range" p) [a, b] [] pos) (cRng2 f g) := by
  obtain ⟨t, pa, k⟩ := ha
  obtain ⟨u, pb, l⟩ := hb
  refine ⟨_, pi_range2 hg hm (pa_cons pa (pa_cons pb pa_nil hs2) (by rw [hs, hs2])) hs hs2, fun Y σ H G α ds α' R S hf hQ => ?_⟩
  obtain ⟨⟨d, α1⟩, h1, hf⟩ := bind_some hf
  obtain ⟨⟨e, α2⟩, h2, hf⟩ := bind_some hf
  obtain ⟨i, h3, hf⟩ := bind_some hf
  obtain ⟨j, h4, hf⟩ := bind_some hf
  split at hf
  · rename_i hr
    cases hf
    refine k Y σ H G α d α1 _ S h1 fun v G1 H1 S1 s1 r1 => l Y σ H1 G1 α1 e _ _ S1 h2 fun u G2 H2 S2 s2 r2 => ?_
    have h3 : d = .int i := asInt_spec h3
    have h4 : e = .int j := asInt_spec h4
    subst h3
    subst h4
    cases r1
    cases r2
    have hr1 := rngOk_spec hr.1
    have hr2 := rngOk_spec hr.2
    exact ⟨i, j, rfl, ⟨hr1.1, hr1.2, hr2.1, hr2.2⟩, hQ _ G2 H2 S2 (s1.trans s2) walk_rng⟩
  · cases hf
/-- a text sign by sign -/
def signs (x : Str) : List D := x.cps.toList.map fun c => .str ⟨#[c]⟩
def asStr : D → Option Str
  | .str x => some x
  | _ => none
def cSigns (f : Ev → Option (D × Ev)) : Ev → Option (List D × Ev) := fun α => (f α).bind fun p => (asStr p.1).bind fun x => some (signs x, p.2)
theorem ri_str {e : Expr} {f : Ev → Option (D × Ev)} (he : RE X e f) : RI X tg e (cSigns f) := by
  obtain ⟨t, p, k⟩ := he
  refine ⟨_, pi_str p, fun Y σ H G α ds α' R S hf hQ => ?_⟩
  obtain ⟨⟨d, α1⟩, h1, hf⟩ := bind_some hf
  obtain ⟨x, h2, hf⟩ := bind_some hf
  cases hf
  refine k Y σ H G α d α1 _ S h1 fun v G1 H1 S1 s1 r1 => ?_
  have h2 : asStr d = some x := h2
  cases d <;> first | (cases h2; done) | skip
  case str z =>
    cases h2
    cases r1
    refine ⟨_, rfl, hQ _ G1 H1 S1 s1 fun Y2 i σ2 G2 H2 α2 S2 s2 _ => ?_⟩
    unfold signs
    refine ⟨fun e => ?_, fun d e => ?_⟩
    · rw [List.getElem?_eq_none_iff, List.length_map, Array.length_toList] at e
      exact e
    · rw [List.getElem?_map] at e
      have hi : i < x.cps.size := by
        have := (List.getElem?_eq_some_iff.mp (show (x.cps.toList.map fun c => (PyData.str ⟨#[c]⟩))[i]? = some d from by rw [List.getElem?_map]; exact e)).1
        rw [List.length_map, Array.length_toList] at this
        exact this
      refine ⟨hi, fun y H' hy => ?_⟩
      obtain ⟨rfl, c, hc, rfl⟩ := hy
      rw [Array.getElem?_toList, hc] at e
      cases e
      exact ⟨G2, S2, Same.refl _, .str _⟩
end

/-! ### methods of an owned list -/
section
variable {X : Cx}
/-- what a method does to an owned list: its answer, the list behind it -/
def OwD (X : Cx) (r : V → List V → Hp → VK → Prop) (h : List D → List D → Option (D × List D)) : Prop :=
  ∀ (Y : Ent) (σ : L2.St) (H G : Hp) (α : Ev) (i : Nat) (p : Addr) (vs : List V) (ds as : List D) (xs : List V) (d : D) (ds' : List D) (Q : VK), SR X.K Y G H σ α → α[i]? = some (.own (.lst ds)) → σ[i]? = some (some (.ref p)) → H p = some (.lst vs) → Ims X.K G vs ds →
    Ims X.K G xs as → h ds as = some (d, ds') → (∀ v G' H', SR X.K Y G' H' σ (α.set i (.own (.lst ds'))) → Same G G' → Im X.K G' v d → Q v H') → r (.ref p) xs H Q
def cOwn (i : Nat) (h : List D → List D → Option (D × List D)) (f : Ev → Option (List D × Ev)) : Ev → Option (D × Ev) := fun α => match α[i]? with
  | some (.own (.lst _)) => (f α).bind fun p => match p.2[i]? with
    | some (.own (.lst ds)) => (h ds p.1).bind fun q => some (q.1, p.2.set i (.own (.lst q.2)))
    | _ => none
  | _ => none
theorem own_at {K : Fg} {Y : Ent} {G H : Hp} {σ : L2.St} {α : Ev} (S : SR K Y G H σ α) {i : Nat} {ds : List D} (e : α[i]? = some (.own (.lst ds))) : ∃ p vs, σ[i]? = some (some (.ref p)) ∧ H p = some (.lst vs) ∧ Ims K G vs ds ∧ G p = none := by
  obtain ⟨p, o, h1, h2, h3, h4, _⟩ := S.ow i _ e
  cases o <;> first | exact h3.elim | skip
  case lst vs => exact ⟨p, vs, h1, h2, h3, h4⟩
theorem re_own (i : Nat) {x : Str} {e : Expr} {es : List Expr} {name : Str} {id : String} {npos apos cpos : Pos} {r : V → List V → Hp → VK → Prop} {h : List D → List D → Option (D × List D)} {f : Ev → Option (List D × Ev)} (slot : Slot "list" name id) (hty : typeOf (.builtin id) = pure (.type "method_descriptor")) (hm : MtR X id r) (hd : OwD X r h)
    (ha : RA X (e :: es) f) (hN : X.N[i]? = some x := by rfl) (hv : Vis X.env.scope x := by first | exact Or.inl rfl | exact Or.inr (Or.inl rfl) | exact Or.inr (Or.inr rfl)) (hdb : (x == ("__debug__" : Str)) = false := by decide)
    (hcd : (x == ("__classdict__" : Str)) = false := by decide) (hbase : attributeBase (.Name x npos) name X.env (eval (.Name x npos) X.env) = eval (.Name x npos) X.env := by rfl)
    (hfew : ((backTo cpos (starEach (e :: es) X.env)).all (fun x => !x.1) && (backToKw cpos (keywordEach [] X.env)).all (fun x => x.1.isSome)
      && decide ((e :: es).length + ([] : List Keyword).length + (if ([] : List Keyword).isEmpty then 0 else 1) < 30)) = true := by rfl)
    (hline : (apos.endLine == cpos.line) = true := by rfl) (hs : starEach (e :: es) X.env = (false, eval e X.env) :: starEach es X.env := by rfl) (hplain : (backTo cpos (starEach es X.env)).any (·.1) = false := by rfl) :
    RE X (.Call (.Attribute (.Name x npos) name apos) (e :: es) [] cpos) (cOwn i h f) := by
  obtain ⟨t, pa, ka⟩ := ha
  refine ⟨_, pe_bm PySem.F.plainAttrs_list slot hty hm (pe_var hN hv hdb hcd) pa hbase hfew hline hs hplain, fun Y σ H G α d α' Q S hf hQ => ?_⟩
  unfold cOwn at hf
  split at hf
  · rename_i ds0 e0
    obtain ⟨p, vs, p1, p2, _⟩ := own_at S e0
    obtain ⟨⟨as, α1⟩, h1, hf⟩ := bind_some hf
    have hf : (match α1[i]? with
      | some (.own (.lst ds)) => (h ds as).bind fun q => some (q.1, α1.set i (.own (.lst q.2)))
      | _ => none) = some (d, α') := hf
    split at hf
    · rename_i ds e1
      obtain ⟨⟨d2, ds'⟩, h2, hf⟩ := bind_some hf
      cases hf
      refine ⟨.ref p, p1, .inl ⟨rfl, vs, SqL.of p2⟩, ka Y σ H G α as α1 _ S h1 fun xs G1 H1 S1 s1 r1 => ?_⟩
      obtain ⟨p', vs', q1, q2, q3, _⟩ := own_at S1 e1
      rw [p1] at q1; cases q1
      exact hd Y σ H1 G1 α1 i p vs' ds as xs _ ds' Q S1 e1 p1 q2 q3 r1 h2 fun v G2 H2 S2 s2 r2 => hQ v G2 H2 S2 (s1.trans s2) r2
    · cases hf
  · cases hf
theorem re_own0 (i : Nat) {x : Str} {name : Str} {id : String} {npos apos cpos : Pos} {r : V → List V → Hp → VK → Prop} {h : List D → List D → Option (D × List D)} (slot : Slot "list" name id) (hty : typeOf (.builtin id) = pure (.type "method_descriptor")) (hm : MtR X id r) (hd : OwD X r h)
    (hN : X.N[i]? = some x := by rfl) (hv : Vis X.env.scope x := by first | exact Or.inl rfl | exact Or.inr (Or.inl rfl) | exact Or.inr (Or.inr rfl)) (hdb : (x == ("__debug__" : Str)) = false := by decide)
    (hcd : (x == ("__classdict__" : Str)) = false := by decide) (hbase : attributeBase (.Name x npos) name X.env (eval (.Name x npos) X.env) = eval (.Name x npos) X.env := by rfl)
    (hline : (apos.endLine == cpos.line) = true := by rfl) :
    RE X (.Call (.Attribute (.Name x npos) name apos) [] [] cpos) (cOwn i h cANil) := by
  refine ⟨_, pe_bm0 PySem.F.plainAttrs_list slot hty hm (pe_var hN hv hdb hcd) hbase hline, fun Y σ H G α d α' Q S hf hQ => ?_⟩
  unfold cOwn at hf
  split at hf
  · rename_i ds0 e0
    obtain ⟨p, vs, p1, p2, p3, _⟩ := own_at S e0
    obtain ⟨⟨as, α1⟩, h1, hf⟩ := bind_some hf
    cases h1
    have hf : (match α[i]? with
      | some (.own (.lst ds)) => (h ds []).bind fun q => some (q.1, α.set i (.own (.lst q.2)))
      | _ => none) = some (d, α') := hf
    split at hf
    · rename_i ds e1
      rw [e0] at e1
      cases e1
      obtain ⟨⟨d2, ds'⟩, h2, hf⟩ := bind_some hf
      cases hf
      exact ⟨.ref p, p1, .inl ⟨rfl, vs, SqL.of p2⟩, hd Y σ H G α i p vs ds0 [] [] _ ds' Q S e0 p1 p2 p3 .nil h2 hQ⟩
    · cases hf
  · cases hf
def hAppend : List D → List D → Option (D × List D) := fun ds as => match as with
  | [x] => if ds.length < sizeLine then some (.none, ds ++ [x]) else none
  | _ => none
theorem ow_append : OwD X rAppend hAppend := fun Y σ H G α i p vs ds as xs d ds' Q S e1 e2 e3 r ra hh hQ => by
  match as, ra, hh with
  | [x], ra, hh =>
    simp only [hAppend] at hh
    split at hh
    · rename_i hz
      cases hh
      cases ra with
      | cons r1 rr =>
        cases rr
        refine ⟨p, vs, _, rfl, rfl, e3, by rw [Ims.length r]; exact hz, hQ _ G _ (S.write e1 e2 (o' := .lst (vs ++ [_])) (c' := .lst (ds ++ [x])) ?_) (Same.refl G) .non⟩
        exact Ims.append r (Ims.one r1)
    · cases hh
theorem re_append (i : Nat) {x : Str} {e : Expr} {npos apos cpos : Pos} {f : Ev → Option (D × Ev)} (ha : RE X e f) (hN : X.N[i]? = some x := by rfl) (hv : Vis X.env.scope x := by first | exact Or.inl rfl | exact Or.inr (Or.inl rfl) | exact Or.inr (Or.inr rfl)) (hdb : (x == ("__debug__" : Str)) = false := by decide)
    (hcd : (x == ("__classdict__" : Str)) = false := by decide) (hbase : attributeBase (.Name x npos) "append" X.env (eval (.Name x npos) X.env) = eval (.Name x npos) X.env := by rfl)
    (hfew : ((backTo cpos (starEach [e] X.env)).all (fun x => !x.1) && (backToKw cpos (keywordEach [] X.env)).all (fun x => x.1.isSome)
      && decide ([e].length + ([] : List Keyword).length + (if ([] : List Keyword).isEmpty then 0 else 1) < 30)) = true := by rfl)
    (hline : (apos.endLine == cpos.line) = true := by rfl) (hs : starEach [e] X.env = (false, eval e X.env) :: starEach [] X.env := by rfl) (hplain : (backTo cpos (starEach [] X.env)).any (·.1) = false := by rfl) :
    RE X (.Call (.Attribute (.Name x npos) "append" apos) [e] [] cpos) (cOwn i hAppend (cACons f cANil)) :=
  re_own i PySem.F.slot_list_append PySem.F.type_list_append mt_append ow_append (ra_cons ha ra_nil hs) hN hv hdb hcd hbase hfew hline hs hplain
def hPop : List D → List D → Option (D × List D) := fun ds as => match as with
  | [] => (ds[ds.length - 1]?).bind fun x => some (x, ds.dropLast)
  | _ => none
theorem ow_pop : OwD X rPop hPop := fun Y σ H G α i p vs ds as xs d ds' Q S e1 e2 e3 r ra hh hQ => by
  match as, ra, hh with
  | [], ra, hh =>
    obtain ⟨x, h1, hh⟩ := bind_some hh
    cases hh
    cases ra
    obtain ⟨v, h2, h3⟩ := Ims.get r h1
    exact ⟨p, vs, v, rfl, rfl, e3, by rw [Ims.length r]; exact h2, hQ v G _ (S.write e1 e2 (o' := .lst vs.dropLast) (c' := .lst ds.dropLast) (Ims.dropLast r)) (Same.refl G) h3⟩
theorem re_pop (i : Nat) {x : Str} {npos apos cpos : Pos} (hN : X.N[i]? = some x := by rfl) (hv : Vis X.env.scope x := by first | exact Or.inl rfl | exact Or.inr (Or.inl rfl) | exact Or.inr (Or.inr rfl)) (hdb : (x == ("__debug__" : Str)) = false := by decide)
    (hcd : (x == ("__classdict__" : Str)) = false := by decide) (hbase : attributeBase (.Name x npos) "pop" X.env (eval (.Name x npos) X.env) = eval (.Name x npos) X.env := by rfl)
    (hline : (apos.endLine == cpos.line) = true := by rfl) :
    RE X (.Call (.Attribute (.Name x npos) "pop" apos) [] [] cpos) (cOwn i hPop cANil) :=
  re_own0 i PySem.F.slot_list_pop PySem.F.type_list_pop mt_pop ow_pop hN hv hdb hcd hbase hline
/-- xs[j] = e, xs an owned list: the slot i -/
def sStore (i : Nat) (fv fj : Ev → Option (D × Ev)) : Ev → Option Out := fun α => (fv α).bind fun p => match p.2[i]? with
  | some (.own (.lst _)) => (fj p.2).bind fun q => (asInt q.1).bind fun j => match q.2[i]? with
    | some (.own (.lst ds)) => (ixN ds.length j).bind fun k => some (.nx (q.2.set i (.own (.lst (ds.set k p.1)))))
    | _ => none
  | _ => none
theorem rs_store (i : Nat) {bor : List Nat} {x : Str} {e j : Expr} {npos spos pos : Pos} {fv fj : Ev → Option (D × Ev)} (he : RE X e fv) (hj : RE X j fj) (hN : X.N[i]? = some x := by rfl) (hv : Vis X.env.scope x := by first | exact Or.inl rfl | exact Or.inr (Or.inl rfl) | exact Or.inr (Or.inr rfl)) (hdb : (x == ("__debug__" : Str)) = false := by decide)
    (hcd : (x == ("__classdict__" : Str)) = false := by decide) (ha : ∀ v, assign (.Subscript (.Name x npos) j spos) X.env v = (do
      let ov ← holding [v] (eval (.Name x npos) X.env)
      let iv ← holding [v, ov] (eval j X.env)
      standAt spos
      holding [v, ov, iv] (setItem ov iv v)
      release [v, ov, iv] []) := by intro _; rfl) (hs : swapsWithSole [.Subscript (.Name x npos) j spos] e pos.line X.env = pure false := by rfl) (hw : swappedStores [.Subscript (.Name x npos) j spos] e X.env = pure none := by rfl)
    (h1 : (assignEach [.Subscript (.Name x npos) j spos] X.env).map (·.2) = [assign (.Subscript (.Name x npos) j spos) X.env] := by rfl) : RS X bor (.Assign [.Subscript (.Name x npos) j spos] e pos) (sStore i fv fj) := by
  obtain ⟨t, p, k⟩ := he
  obtain ⟨u, q, l⟩ := hj
  refine ⟨_, ps_asg p (pg_sub (pe_var hN hv hdb hcd) q set_list ha) hs hw h1, fun Y σ H G α o Dn hb S hf hQ => ?_⟩
  obtain ⟨⟨d, α1⟩, e1, hf⟩ := bind_some hf
  have hf : (match α1[i]? with
    | some (.own (.lst _)) => (fj α1).bind fun q => (asInt q.1).bind fun j => match q.2[i]? with
      | some (.own (.lst ds)) => (ixN ds.length j).bind fun k => some (Out.nx (q.2.set i (.own (.lst (ds.set k d)))))
      | _ => none
    | _ => none) = some o := hf
  split at hf
  · rename_i ds0 e0
    obtain ⟨⟨jd, α2⟩, e2, hf⟩ := bind_some hf
    obtain ⟨jz, e3, hf⟩ := bind_some hf
    have e3 : jd = .int jz := asInt_spec e3
    subst e3
    have hf : (match α2[i]? with
      | some (.own (.lst ds)) => (ixN ds.length jz).bind fun k => some (Out.nx (α2.set i (.own (.lst (ds.set k d)))))
      | _ => none) = some o := hf
    split at hf
    · rename_i ds e4
      obtain ⟨kz, e5, hf⟩ := bind_some hf
      cases hf
      refine k Y σ H G α d α1 _ S e1 fun v G1 H1 S1 s1 r1 => ?_
      obtain ⟨a, vs0, a1, _⟩ := own_at S1 e0
      refine ⟨.ref a, a1, l Y σ H1 G1 α1 _ α2 _ S1 e2 fun jv G2 H2 S2 s2 r2 => ?_⟩
      cases r2
      obtain ⟨a', vs, b1, b2, b3, _⟩ := own_at S2 e4
      rw [a1] at b1; cases b1
      refine ⟨a, vs, jz, kz, rfl, rfl, b2, by rw [Ims.length b3]; exact e5, hQ σ G2 _ (S2.write e4 a1 (o' := .lst (vs.set kz v)) (c' := .lst (ds.set kz d)) ?_) (s1.trans s2)⟩
      exact Ims.set (Im.mono s2 _ _ r1) kz b3
    · cases hf
  · cases hf
end

/-! ### the end of a law -/
section
/-- the law's promise -/
def spLaw (K : Fg) : Sp := fun vs H Q _ => ∃ (a : Addr) (ns : List Int), vs = [.ref a] ∧ SqL K H a (ns.map V.int) ∧ ns.length ≤ 63 ∧ ∀ H', Q (.bl true) H'
theorem ims_ints {K : Fg} {G : Hp} : ∀ ns : List Int, Ims K G (ns.map V.int) (ns.map PyData.int)
  | [] => .nil
  | n :: ns => .cons (.int n) (ims_ints ns)
theorem law_ok {P : Program} {w : World} {K : Fg} {mg : Str → Option Value} {base : Heap} {k : Nat} {f : Addr} {fd : FuncData} {ps : List Str} {c : Cal} (h : FnOk P w K mg base CX0 k f fd ps (spC K c)) (hm : c.m = 1)
    (hF : ∀ ns : List Int, ns.length ≤ 63 → c.F [.im (.list (ns.map PyData.int))] = some (.bool true, [.im (.list (ns.map PyData.int))])) : FnOk P w K mg base CX0 k f fd ps (spLaw K) :=
  h.imp (fun vs H Q E ⟨a, ns, e, hs, hl, q⟩ => by
    subst e
    refine ⟨H, [.im (.list (ns.map PyData.int))], .bool true, _, by rw [hm]; rfl, fun i c e => ?_, ⟨rfl, Same.refl H, Same.refl H, fun _ _ => rfl, fun _ _ e _ => e, fun _ e => e, fun i d e => ?_, fun i c e => ?_, fun i j p ⟨⟨c, hc⟩, _⟩ _ => ?_, fun i a e => ?_⟩, hF ns hl, fun v G' H' S' s' r' => ?_⟩
    · cases i with
      | zero => cases e
      | succ i => cases e
    · cases i with
      | zero => cases e; exact ⟨.ref a, rfl, .lst hs (ims_ints ns)⟩
      | succ i => cases e
    · cases i with
      | zero => cases e
      | succ i => cases e
    · cases i with
      | zero => cases hc
      | succ i => cases hc
    · obtain ⟨_, c, e2⟩ := pins_some.mp e
      cases i with
      | zero => cases e2
      | succ i => cases e2
    · cases r'
      exact q H')
end
end Pv
set_option maxHeartbeats 4000000
/-! PvK: comprehensions by data rules, what stands at the top, calls by name. -/
namespace Pv
open PySem PySem.Spec L2

section
variable {X : Cx} {scope : Scope}
abbrev inBlk (X : Cx) (scope : Scope) (R : Cx → Prop) : Prop := ∀ (s : Shared) (H : Hp) (C : Addr) (cl : List (Str × Addr)) (fp : List Addr), R (X.blk s H scope (compEnvC scope cl C X.env) fp)
theorem blk_e {e : Expr} {f : Ev → Option (D × Ev)} (h : inBlk X scope fun Z => RE Z e f) : ∃ t, (Blk X scope fun Z => PE Z e t) ∧ ∀ (Y : Ent) (σ : L2.St) (H G : Hp) (α : Ev) (d : D) (α' : Ev) (Q : VK), SR X.K Y G H σ α → f α = some (d, α') → (∀ v G' H', SR X.K Y G' H' σ α' → Same G G' → Im X.K G' v d → Q v H') → t σ H Q := by
  refine ⟨fun σ H Q => ∀ t : TE, (∀ (Y : Ent) (σ : L2.St) (H G : Hp) (α : Ev) (d : D) (α' : Ev) (Q : VK), SR X.K Y G H σ α → f α = some (d, α') → (∀ v G' H', SR X.K Y G' H' σ α' → Same G G' → Im X.K G' v d → Q v H') → t σ H Q) → t σ H Q, fun s H C cl fp => ?_, fun Y σ H G α d α' Q S hf hQ t k => k Y σ H G α d α' Q S hf hQ⟩
  obtain ⟨t, p, k⟩ := h s H C cl fp
  exact ⟨fun pins s σ H Q I q => p.run pins s σ H Q I (q t k)⟩
theorem blk_t {ifs : List Expr} {f : Ev → Option (Bool × Ev)} (h : inBlk X scope fun Z => RTs Z ifs f) : ∃ t, (Blk X scope fun Z => PTs Z ifs t) ∧ ∀ (Y : Ent) (σ : L2.St) (H G : Hp) (α : Ev) (b : Bool) (α' : Ev) (Q : Bool → Hp → Prop), SR X.K Y G H σ α → f α = some (b, α') → (∀ G' H', SR X.K Y G' H' σ α' → Same G G' → Q b H') → t σ H Q := by
  refine ⟨fun σ H Q => ∀ t : TT, (∀ (Y : Ent) (σ : L2.St) (H G : Hp) (α : Ev) (b : Bool) (α' : Ev) (Q : Bool → Hp → Prop), SR X.K Y G H σ α → f α = some (b, α') → (∀ G' H', SR X.K Y G' H' σ α' → Same G G' → Q b H') → t σ H Q) → t σ H Q, fun s H C cl fp => ?_, fun Y σ H G α b α' Q S hf hQ t k => k Y σ H G α b α' Q S hf hQ⟩
  obtain ⟨t, p, k⟩ := h s H C cl fp
  exact ⟨fun pins s σ H Q I q => p.run pins s σ H Q I (q t k)⟩
theorem blk_g {tg : Expr} {vt : List Nat} {g : D → Ev → Option Ev} (h : inBlk X scope fun Z => RGt Z tg vt g) : ∃ t, (Blk X scope fun Z => PG Z tg t) ∧ ∀ (Y : Ent) (σ : L2.St) (H G : Hp) (α α' : Ev) (d : D) (v : V) (Q : L2.St → Hp → Prop), SR X.K Y G H σ α → Im X.K G v d → g d α = some α' → (∀ σ', SR X.K Y G H σ' α' → σ'.length = σ.length → (∀ i, i ∉ vt → σ'[i]? = σ[i]?) → Q σ' H) → t v σ H Q := by
  refine ⟨fun v σ H Q => ∀ t : TG, (∀ (Y : Ent) (σ : L2.St) (H G : Hp) (α α' : Ev) (d : D) (v : V) (Q : L2.St → Hp → Prop), SR X.K Y G H σ α → Im X.K G v d → g d α = some α' → (∀ σ', SR X.K Y G H σ' α' → σ'.length = σ.length → (∀ i, i ∉ vt → σ'[i]? = σ[i]?) → Q σ' H) → t v σ H Q) → t v σ H Q, fun s H C cl fp => ?_, fun Y σ H G α α' d v Q S r hf hQ t k => k Y σ H G α α' d v Q S r hf hQ⟩
  obtain ⟨t, p, k⟩ := h s H C cl fp
  exact ⟨fun pins s σ H v u Q I r q => p.run pins s σ H v u Q I r (q t k)⟩
variable {elt tg iter : Expr} {ifs : List Expr} {own : List (Str × Nat)} {pos : Pos} {f : Ev → Option (List D × Ev)} {g : D → Ev → Option Ev} {tt : Ev → Option (Bool × Ev)} {te : Ev → Option (D × Ev)}
/-- [elt for tg in iter if ..] -/
theorem rf_lc {vt : List Nat} (hc : X.calm = true) (hN : X.N.Nodup) (hi : RI X tg iter f) (ok : blkC X.N X.env.scope scope own = true) (hv : ∀ i ∈ vt, i ∈ own.map (·.2))
    (hg : inBlk X scope fun Z => RGt Z tg vt g) (ht : inBlk X scope fun Z => RTs Z ifs tt) (he : inBlk X scope fun Z => RE Z elt te)
    (hs : ∀ x, foldedSetIterable iter X.env x = pure x := by intro _; rfl) : RF X (.ListComp elt [⟨tg, iter, ifs, 0⟩] scope pos) (cComp (own.map (·.2)) f g tt te) :=
  rf_comp hc hN hi ok hv (blk_g hg) (blk_t ht) (blk_e he) hs
/-- y = [elt for tg in iter if ..], on one line -/
theorem rs_lc {bor : List Nat} {vt : List Nat} {i : Nat} {y : Str} {py spos : Pos} (hc : X.calm = true) (hN : X.N.Nodup) (hy : X.N[i]? = some y) (hyl : X.env.scope.names.lookup y = some .local) (hib : i ∉ bor)
    (hsw : swapsWith (.ListComp elt [⟨tg, iter, ifs, 0⟩] scope pos) (some (.Name y py)) spos.line X.env = pure true) (hi : RI X tg iter f) (ok : blkC X.N X.env.scope scope own = true) (hv : ∀ i ∈ vt, i ∈ own.map (·.2))
    (hg : inBlk X scope fun Z => RGt Z tg vt g) (ht : inBlk X scope fun Z => RTs Z ifs tt) (he : inBlk X scope fun Z => RE Z elt te)
    (hs : ∀ x, foldedSetIterable iter X.env x = pure x := by intro _; rfl) : RS X bor (.Assign [.Name y py] (.ListComp elt [⟨tg, iter, ifs, 0⟩] scope pos) spos) (sOwn i (cComp (own.map (·.2)) f g tt te)) :=
  rs_comp hc hN hy hyl hib hsw hi ok hv (blk_g hg) (blk_t ht) (blk_e he) hs
end
def sFrz (i : Nat) (g : Ev → Option Out) : Ev → Option Out := fun α => g (frzA i α)
theorem rss_freeze {X : Cx} {bor : List Nat} {sts : List Stmt} {g : Ev → Option Out} (i : Nat) (h : RSs X bor sts g) (hib : i ∉ bor := by decide) : RSs X bor sts (sFrz i g) := rss_frz i hib h

/-! ### what stands at the top -/
/-- a def of the text stands under its name -/
def Top (K : Fg) (mg : Str → Option Value) (x : Str) (st : Stmt) (ps : List Str) : Prop := ∃ f fd, Fun K x x st f fd ∧ mg x = some (.ref f) ∧ Binds K fd ps []
/-- .. and keeps its promise -/
def Has (P : Program) (w : World) (K : Fg) (mg : Str → Option Value) (base : Heap) (k : Nat) (x : Str) (ps : List Str) (c : Cal) : Prop :=
  ∃ f fd, FnOk P w K mg base CX0 k f fd ps (spC K c) ∧ mg x = some (.ref f) ∧ PySem.W.keepIn K (.ref f) = true ∧ Binds K fd ps []
section
variable {P : Program} {w : World} {K : Fg} {mg : Str → Option Value} {base : Heap}
theorem Has.mono {j k : Nat} {x : Str} {ps : List Str} {c : Cal} (h : Has P w K mg base j x ps c) (l : j ≤ k) : Has P w K mg base k x ps c := by
  obtain ⟨f, fd, a, b⟩ := h
  exact ⟨f, fd, a.mono l, b⟩
theorem Has.mk {x : Str} {st : Stmt} {ps N : List Str} {k n : Nat} {bor : List Nat} {g : Ev → Option Out} (T : Top K mg x st ps) (S : FnScope N ps (defScope st)) (hn : N.length - ps.length = n)
    (hbody : ∀ (f : Addr) (cdv : Value) (A : Around) (outer : List Env) (s : Shared) (H : Hp) (E : XK), Room k (A.deeper (PyProof.Rows.envOfC x (defScope st) s.heap.objs.size f cdv)) → RSs (cxOf CX0 P w K mg base N x (defScope st) f cdv A outer s H E).nox bor (defBody st) g) :
    Has P w K mg base (k + 1) x ps ⟨ps.length, bor, fnD n g⟩ := by
  obtain ⟨f, fd, F, m, b⟩ := T
  exact ⟨f, fd, fn_ok F S hn (hbody f), m, F.kp, b⟩
end
section
variable {X : Cx} {x : Str} {e : Expr} {es : List Expr} {p pos : Pos} {ps : List Str} {k : Nat} {c : Cal}
theorem re_fn {fa : Ev → Option (List Ag × Ev)} (h : Has X.prog X.w X.K X.mg X.base k x ps c) (hr : Room k X.A) (hg : Gl X x)
    (ha : RG X (e :: es) fa) (hdb : (x == ("__debug__" : Str)) = false := by decide) (he : starEach (e :: es) X.env = (false, eval e X.env) :: starEach es X.env := by rfl) (hpl : (backTo pos (starEach es X.env)).any (·.1) = false := by rfl) :
    RE X (.Call (.Name x p) (e :: es) [] pos) (cCall c fa) := by
  obtain ⟨f, fd, ok, hm, hk, hb⟩ := h
  exact re_call ok hr hg hm hk hb ha hdb he hpl
theorem re_fn0 (h : Has X.prog X.w X.K X.mg X.base k x ps c) (hr : Room k X.A) (hg : Gl X x) (hdb : (x == ("__debug__" : Str)) = false := by decide) : RE X (.Call (.Name x p) [] [] pos) (cCall c gaNil) := by
  obtain ⟨f, fd, ok, hm, hk, hb⟩ := h
  exact re_call0 ok hr hg hm hk hb hdb
end
end Pv
set_option maxHeartbeats 4000000
/-! PvL: truth of data, chains, two names at once, methods of texts, tables of the top. -/
namespace Pv
open PySem PySem.Spec L2
section
variable {X : Cx}
/-! ### truth -/
theorem tru_im {K : Fg} {G H : Hp} (s : Same G H) {v : V} {d : D} {b : Bool} (h : Im K G v d) (e : truD d = some b) : TruV K v H b := by
  cases h with
  | non => cases e; exact rfl
  | bl k => cases e; exact rfl
  | int i => cases e; exact rfl
  | str x =>
    simp only [truD] at e
    split at e
    · rename_i hz
      cases e
      refine ⟨hz, ?_⟩
      by_cases h0 : x.length = 0
      · rw [h0]; rfl
      · have h1 : ((x.length : Nat) : Int) ≠ 0 := by omega
        rw [bne_iff_ne.mpr h0, bne_iff_ne.mpr h1]
    · cases e
  | lst hs ha =>
    cases e
    refine .inl ⟨_, s.seq hs, ?_⟩
    cases ha <;> rfl
  | tup hs ha =>
    cases e
    refine .inr (.inl ⟨_, seqT_mono s hs, ?_⟩)
    cases ha <;> rfl
theorem rt_tru {e : Expr} {f : Ev → Option (D × Ev)} (h : RE X e f) (he : ∀ whole, isTrue e X.env whole = (do let v ← whole; standAt e.pos; holding [v] (truthy v)) := by intro _; rfl) : RT X e (cTr f) := by
  obtain ⟨t, p, k⟩ := h
  refine ⟨_, pt_truth p he, fun Y σ H G α b α' Q S hf hQ => ?_⟩
  obtain ⟨⟨d1, α1⟩, h1, hf⟩ := bind_some hf
  obtain ⟨b0, e0, hf⟩ := bind_some hf
  cases hf
  exact k Y σ H G α d1 α1 _ S h1 fun v G2 H2 S2 s2 r2 => ⟨b, tru_im S2.le r2 e0, hQ G2 H2 S2 s2⟩
/-! ### a op b op' c -/
def cChain (g g' : D → D → Option D) (fa fb fc : Ev → Option (D × Ev)) : Ev → Option (D × Ev) := fun α =>
  (fa α).bind fun p => (fb p.2).bind fun q => (g p.1 q.1).bind fun d => (asBool d).bind fun k => if k = true then (fc q.2).bind fun r => (g' q.1 r.1).bind fun d' => some (d', r.2) else some (.bool false, q.2)
theorem chain_run {K : Fg} {a b c : Expr} {r r' : R2} {g g' : D → D → Option D} {fa fb fc : Ev → Option (D × Ev)} (hK : X.K = K) (hg : OpD X r g) (hg' : OpD X r' g') {ta tb tc : TE}
    (ka : ∀ (Y : Ent) (σ : L2.St) (H G : Hp) (α : Ev) (d : D) (α' : Ev) (Q : VK), SR X.K Y G H σ α → fa α = some (d, α') → (∀ v G' H', SR X.K Y G' H' σ α' → Same G G' → Im X.K G' v d → Q v H') → ta σ H Q)
    (kb : ∀ (Y : Ent) (σ : L2.St) (H G : Hp) (α : Ev) (d : D) (α' : Ev) (Q : VK), SR X.K Y G H σ α → fb α = some (d, α') → (∀ v G' H', SR X.K Y G' H' σ α' → Same G G' → Im X.K G' v d → Q v H') → tb σ H Q)
    (kc : ∀ (Y : Ent) (σ : L2.St) (H G : Hp) (α : Ev) (d : D) (α' : Ev) (Q : VK), SR X.K Y G H σ α → fc α = some (d, α') → (∀ v G' H', SR X.K Y G' H' σ α' → Same G G' → Im X.K G' v d → Q v H') → tc σ H Q)
    {Y : Ent} {σ : L2.St} {H G : Hp} {α α' : Ev} {d : D} {Q : VK} (S : SR X.K Y G H σ α) (hf : cChain g g' fa fb fc α = some (d, α')) (hQ : ∀ v G' H', SR X.K Y G' H' σ α' → Same G G' → Im X.K G' v d → Q v H') : tChain r r' ta tb tc σ H Q := by
  obtain ⟨⟨d1, α1⟩, h1, hf⟩ := bind_some hf
  obtain ⟨⟨d2, α2⟩, h2, hf⟩ := bind_some hf
  obtain ⟨d3, h3, hf⟩ := bind_some hf
  obtain ⟨k, h4, hf⟩ := bind_some hf
  have h4 : d3 = .bool k := by cases d3 <;> first | (cases h4; done) | (cases h4; rfl)
  subst h4
  refine ka Y σ H G α d1 α1 _ S h1 fun x G1 H1 S1 s1 r1 => kb Y σ H1 G1 α1 d2 α2 _ S1 h2 fun y G2 H2 S2 s2 r2 => hg Y σ H2 G2 α2 d1 d2 _ x y _ S2 (Im.mono s2 _ _ r1) r2 h3 fun z G3 H3 S3 s3 r3 => ?_
  cases r3
  refine ⟨k, rfl, ?_⟩
  cases k with
  | false =>
    simp only [asBool, Option.bind_some, Bool.false_eq_true, if_false] at hf ⊢
    cases hf
    exact hQ _ G3 H3 S3 (s1.trans (s2.trans s3)) (.bl _)
  | true =>
    simp only [asBool, Option.bind_some, if_true] at hf ⊢
    obtain ⟨⟨d5, α5⟩, h5, hf⟩ := bind_some hf
    obtain ⟨d6, h6, hf⟩ := bind_some hf
    cases hf
    exact kc Y σ H3 G3 α2 d5 _ _ S3 h5 fun u G5 H5 S5 s5 r5 => hg' Y σ H5 G5 _ d2 d5 _ y u Q S5 (Im.mono (s3.trans s5) _ _ r2) r5 h6 fun v G6 H6 S6 s6 r6 => hQ v G6 H6 S6 (s1.trans (s2.trans (s3.trans (s5.trans s6)))) r6
theorem re_chain {a b c : Expr} {op op' : CmpOp} {pos : Pos} {r r' : R2} {g g' : D → D → Option D} {fa fb fc : Ev → Option (D × Ev)} (ho : OpR X (compareOp op) r) (ho' : OpR X (compareOp op') r') (hg : OpD X r g) (hg' : OpD X r' g') (ha : RE X a fa) (hb : RE X b fb) (hc : RE X c fc)
    (hm : lastMarks [op, op'] [b, c] = false := by with_unfolding_all rfl) : RE X (.Compare a [op, op'] [b, c] pos) (cChain g g' fa fb fc) := by
  obtain ⟨ta, pa, ka⟩ := ha
  obtain ⟨tb, pb, kb⟩ := hb
  obtain ⟨tc, pc, kc⟩ := hc
  exact ⟨_, pe_chain ho ho' pa pb pc hm, fun Y σ H G α d α' Q S hf hQ => chain_run (a := a) (b := b) (c := c) rfl hg hg' ka kb kc S hf hQ⟩
theorem rt_chain {a b c : Expr} {op op' : CmpOp} {pos : Pos} {r r' : R2} {g g' : D → D → Option D} {fa fb fc : Ev → Option (D × Ev)} (ho : OpR X (compareOp op) r) (ho' : OpR X (compareOp op') r') (hg : OpD X r g) (hg' : OpD X r' g') (ha : RE X a fa) (hb : RE X b fb) (hc : RE X c fc)
    (hm : lastMarks [op, op'] [b, c] = false := by with_unfolding_all rfl) : RT X (.Compare a [op, op'] [b, c] pos) (cT (cChain g g' fa fb fc)) := by
  obtain ⟨ta, pa, ka⟩ := ha
  obtain ⟨tb, pb, kb⟩ := hb
  obtain ⟨tc, pc, kc⟩ := hc
  refine ⟨_, pt_chain ho ho' pa pb pc hm, fun Y σ H G α b' α' Q S hf hQ => ?_⟩
  obtain ⟨⟨d1, α1⟩, h1, hf⟩ := bind_some hf
  obtain ⟨b0, e0, hf⟩ := bind_some hf
  cases hf
  refine chain_run (a := a) (b := b) (c := c) rfl hg hg' ka kb kc S h1 fun v G2 H2 S2 s2 r2 => ?_
  have e0 : asBool d1 = some b' := e0
  cases d1 <;> first | (cases e0; done) | skip
  case bool k =>
    cases e0
    cases r2
    exact ⟨_, rfl, hQ G2 H2 S2 s2⟩
/-! ### a, b = x, y -/
def sPar (i j : Nat) (f : Ev → Option (List D × Ev)) : Ev → Option Out := fun α => (f α).bind fun p => match p.1 with
  | [d, e] => some (.nx ((p.2.set i (.im d)).set j (.im e)))
  | _ => none
theorem rs_par {bor : List Nat} {i j : Nat} {x y : Str} {a b : Expr} {px py pt pos : Pos} {kt : Nat} {k2 : Nat} {pt2 : Pos} {f : Ev → Option (List D × Ev)} (hc : X.calm = true) (hN : X.N.Nodup) (hi : X.N[i]? = some x) (hj : X.N[j]? = some y) (hij : i ≠ j)
    (hx : X.env.scope.names.lookup x = some .local) (hy : X.env.scope.names.lookup y = some .local) (ha : RA X [a, b] f)
    (hw : swappedStores [.Tuple [.Name x px, .Name y py] kt pt] (.Tuple [a, b] k2 pt2) X.env = pure (some [x, y]))
    (hs : swapsWithSole [.Tuple [.Name x px, .Name y py] kt pt] (.Tuple [a, b] k2 pt2) pos.line X.env = pure false := by rfl) :
    RS X bor (.Assign [.Tuple [.Name x px, .Name y py] kt pt] (.Tuple [a, b] k2 pt2) pos) (sPar i j f) := by
  obtain ⟨t, p, k⟩ := ha
  refine ⟨_, ps_par hc hN hi hj hij hx hy p hw hs, fun Y σ H G α o Dn hb S hf hQ => ?_⟩
  obtain ⟨⟨ds, α1⟩, e1, hf⟩ := bind_some hf
  refine k Y σ H G α ds α1 _ S e1 fun vs G1 H1 S1 s1 r1 => ?_
  match ds, r1, hf with
  | [d, e], r1, hf =>
    cases hf
    cases r1 with
    | cons q1 r =>
      cases r with
      | cons q2 r =>
        cases r
        exact ⟨_, _, rfl, hQ _ G1 H1 ((S1.set_im q1).set_im q2) s1⟩

/-! ### methods of texts -/
/-- a method of a text by what it gives for data -/
def StD (X : Cx) (r : V → List V → Hp → VK → Prop) (h : Str → List D → Option D) : Prop :=
  ∀ (Y : Ent) (σ : L2.St) (H G : Hp) (α : Ev) (x : Str) (as : List D) (d : D) (xs : List V) (Q : VK), SR X.K Y G H σ α → Ims X.K G xs as → h x as = some d →
    (∀ v G' H', SR X.K Y G' H' σ α → Same G G' → Im X.K G' v d → Q v H') → r (.str x) xs H Q
def cSm (h : Str → List D → Option D) (fo : Ev → Option (D × Ev)) (fa : Ev → Option (List D × Ev)) : Ev → Option (D × Ev) := fun α =>
  (fo α).bind fun p => (asStr p.1).bind fun x => (fa p.2).bind fun q => (h x q.1).bind fun d => some (d, q.2)
theorem asStr_spec {d : D} {x : Str} (h : asStr d = some x) : d = .str x := by
  cases d <;> first | (cases h; done) | (cases h; rfl)
theorem re_sm {o e : Expr} {es : List Expr} {name : Str} {id : String} {apos cpos : Pos} {r : V → List V → Hp → VK → Prop} {h : Str → List D → Option D} {fo : Ev → Option (D × Ev)} {fa : Ev → Option (List D × Ev)} (slot : Slot "str" name id) (hty : typeOf (.builtin id) = pure (.type "method_descriptor")) (hm : MtR X id r) (hd : StD X r h)
    (ho : RE X o fo) (ha : RA X (e :: es) fa) (hbase : attributeBase o name X.env (eval o X.env) = eval o X.env := by rfl)
    (hfew : ((backTo cpos (starEach (e :: es) X.env)).all (fun x => !x.1) && (backToKw cpos (keywordEach [] X.env)).all (fun x => x.1.isSome)
      && decide ((e :: es).length + ([] : List Keyword).length + (if ([] : List Keyword).isEmpty then 0 else 1) < 30)) = true := by rfl)
    (hline : (apos.endLine == cpos.line) = true := by rfl) (hs : starEach (e :: es) X.env = (false, eval e X.env) :: starEach es X.env := by rfl) (hplain : (backTo cpos (starEach es X.env)).any (·.1) = false := by rfl) :
    RE X (.Call (.Attribute o name apos) (e :: es) [] cpos) (cSm h fo fa) := by
  obtain ⟨t, p, k⟩ := ho
  obtain ⟨u, q, l⟩ := ha
  refine ⟨_, pe_bm PySem.F.plainAttrs_str slot hty hm p q hbase hfew hline hs hplain, fun Y σ H G α d α' Q S hf hQ => ?_⟩
  obtain ⟨⟨d1, α1⟩, h1, hf⟩ := bind_some hf
  obtain ⟨x, h2, hf⟩ := bind_some hf
  obtain ⟨⟨as, α2⟩, h3, hf⟩ := bind_some hf
  obtain ⟨d2, h4, hf⟩ := bind_some hf
  cases hf
  have h2 : d1 = .str x := asStr_spec h2
  subst h2
  refine k Y σ H G α _ α1 _ S h1 fun v G1 H1 S1 s1 r1 => ?_
  cases r1
  exact ⟨rfl, l Y σ H1 G1 α1 as _ _ S1 h3 fun xs G2 H2 S2 s2 r2 => hd Y σ H2 G2 _ x as d xs Q S2 r2 h4 fun v G3 H3 S3 s3 r3 => hQ v G3 H3 S3 (s1.trans (s2.trans s3)) r3⟩
theorem re_sm0 {o : Expr} {name : Str} {id : String} {apos cpos : Pos} {r : V → List V → Hp → VK → Prop} {h : Str → List D → Option D} {fo : Ev → Option (D × Ev)} (slot : Slot "str" name id) (hty : typeOf (.builtin id) = pure (.type "method_descriptor")) (hm : MtR X id r) (hd : StD X r h)
    (ho : RE X o fo) (hbase : attributeBase o name X.env (eval o X.env) = eval o X.env := by rfl) (hline : (apos.endLine == cpos.line) = true := by rfl) :
    RE X (.Call (.Attribute o name apos) [] [] cpos) (cSm h fo cANil) := by
  obtain ⟨t, p, k⟩ := ho
  refine ⟨_, pe_bm0 PySem.F.plainAttrs_str slot hty hm p hbase hline, fun Y σ H G α d α' Q S hf hQ => ?_⟩
  obtain ⟨⟨d1, α1⟩, h1, hf⟩ := bind_some hf
  obtain ⟨x, h2, hf⟩ := bind_some hf
  obtain ⟨⟨as, α2⟩, h3, hf⟩ := bind_some hf
  obtain ⟨d2, h4, hf⟩ := bind_some hf
  cases hf
  cases h3
  have h2 : d1 = .str x := asStr_spec h2
  subst h2
  refine k Y σ H G α _ _ _ S h1 fun v G1 H1 S1 s1 r1 => ?_
  cases r1
  exact ⟨rfl, hd Y σ H1 G1 _ x [] d [] Q S1 .nil h4 fun v G3 H3 S3 s3 r3 => hQ v G3 H3 S3 (s1.trans s3) r3⟩
/-- join -/
def strsD : List D → Option (List Str)
  | [] => some []
  | d :: ds => (asStr d).bind fun x => (strsD ds).bind fun r => some (x :: r)
theorem strsD_spec {K : Fg} {G : Hp} : ∀ {ds : List D} {ys : List Str} {vs : List V}, strsD ds = some ys → Ims K G vs ds → vs = ys.map V.str
  | [], ys, vs, h, r => by cases h; cases r; rfl
  | d :: ds, ys, vs, h, r => by
    obtain ⟨x, h1, h⟩ := bind_some h
    obtain ⟨z, h2, h⟩ := bind_some h
    cases h
    have h1 : d = .str x := asStr_spec h1
    subst h1
    cases r with
    | cons q r =>
      cases q
      rw [strsD_spec h2 r]
      rfl
def hJoin : Str → List D → Option D := fun a as => match as with
  | [d] => (itemsD d).bind fun ds => (strsD ds).bind fun ys => if (ys.map (·.length)).sum + ys.length * a.length ≤ 16777216 then some (.str (Txt.join a ys)) else none
  | _ => none
theorem sd_join : StD X (fun x xs H Q => ∃ a p, ∃ ys : List Str, x = .str a ∧ xs = [.ref p] ∧ (SqL X.K H p (ys.map V.str) ∨ SqT X.K H p (ys.map V.str)) ∧ (ys.map (·.length)).sum + ys.length * a.length ≤ 16777216 ∧ Q (.str (Txt.join a ys)) H) hJoin :=
  fun Y σ H G α x as d xs Q S ra hh hQ => by
    match as, ra, hh with
    | [dl], ra, hh =>
      obtain ⟨ds, h1, hh⟩ := bind_some hh
      obtain ⟨ys, h2, hh⟩ := bind_some hh
      split at hh
      · rename_i hz
        cases hh
        cases ra with
        | cons q r =>
          cases r
          cases q with
          | lst hs ha =>
            cases h1
            have e := strsD_spec h2 ha
            subst e
            exact ⟨x, _, ys, rfl, rfl, .inl (S.le.seq hs), hz, hQ _ G H S (Same.refl G) (.str _)⟩
          | tup hs ha =>
            cases h1
            have e := strsD_spec h2 ha
            subst e
            exact ⟨x, _, ys, rfl, rfl, .inr (seqT_mono S.le hs), hz, hQ _ G H S (Same.refl G) (.str _)⟩
          | non => cases h1
          | bl _ => cases h1
          | int _ => cases h1
          | str _ => cases h1
      · cases hh
theorem re_join {o e : Expr} {apos cpos : Pos} {fo fa : Ev → Option (D × Ev)} (ho : RE X o fo) (ha : RE X e fa) (hbase : attributeBase o "join" X.env (eval o X.env) = eval o X.env := by rfl)
    (hfew : ((backTo cpos (starEach [e] X.env)).all (fun x => !x.1) && (backToKw cpos (keywordEach [] X.env)).all (fun x => x.1.isSome)
      && decide ([e].length + ([] : List Keyword).length + (if ([] : List Keyword).isEmpty then 0 else 1) < 30)) = true := by rfl)
    (hline : (apos.endLine == cpos.line) = true := by rfl) (hs : starEach [e] X.env = (false, eval e X.env) :: starEach [] X.env := by rfl) (hplain : (backTo cpos (starEach [] X.env)).any (·.1) = false := by rfl) :
    RE X (.Call (.Attribute o "join" apos) [e] [] cpos) (cSm hJoin fo (cACons fa cANil)) :=
  re_sm PySem.F.slot_str_join PySem.F.type_str_join mt_join sd_join ho (ra_cons ha ra_nil hs) hbase hfew hline hs hplain
def hFind4 : Str → List D → Option D := fun a as => match as with
  | [.str b, .int i, .int j] => some (.int (Txt.findIn a b i j))
  | _ => none
theorem sd_find4 : StD X (fun x xs H Q => ∃ (a b : Str) (i j : Int), x = .str a ∧ xs = [.str b, .int i, .int j] ∧ Q (.int (Txt.findIn a b i j)) H) hFind4 := fun Y σ H G α x as d xs Q S ra hh hQ => by
  unfold hFind4 at hh
  split at hh
  · rename_i b i j
    cases hh
    cases ra with
    | cons q1 r =>
      cases r with
      | cons q2 r =>
        cases r with
        | cons q3 r =>
          cases r
          cases q1
          cases q2
          cases q3
          exact ⟨x, _, _, _, rfl, rfl, hQ _ G H S (Same.refl G) (.int _)⟩
  · cases hh
def hLstrip : Str → List D → Option D := fun a as => match as with
  | [.str b] => if a.length ≤ sizeLine then some (.str (Txt.lstripChars a b)) else none
  | _ => none
theorem sd_lstrip : StD X (fun x xs H Q => ∃ a b, x = .str a ∧ xs = [.str b] ∧ a.length ≤ sizeLine ∧ Q (.str (Txt.lstripChars a b)) H) hLstrip := fun Y σ H G α x as d xs Q S ra hh hQ => by
  unfold hLstrip at hh
  split at hh
  · split at hh
    · cases hh
      cases ra with
      | cons q1 r =>
        cases r
        cases q1
        exact ⟨x, _, rfl, rfl, by assumption, hQ _ G H S (Same.refl G) (.str _)⟩
    · cases hh
  · cases hh
/-- int(text) -/
def bIntS : List D → Option D
  | [.str a] => if a.length ≤ 640 then (PySem.intText? a).bind fun n => some (.int n) else none
  | _ => none
theorem cd_intS : CalD X (fun xs H Q => ∃ a n, xs = [.str a] ∧ PySem.intText? a = some n ∧ a.length ≤ 640 ∧ Q (.int n) H) bIntS := fun Y σ H G α as d xs Q S ha hg hQ => by
  unfold bIntS at hg
  split at hg
  · split at hg
    · obtain ⟨n, h1, hg⟩ := bind_some hg
      cases hg
      cases ha with
      | cons q1 r =>
        cases r
        cases q1
        exact ⟨_, n, rfl, h1, by assumption, hQ _ G H S (Same.refl G) (.int _)⟩
    · cases hg
  · cases hg
/-- int of a number, a bool, a text -/
theorem re_intA {e : Expr} {p pos : Pos} {f : Ev → Option (D × Ev)} (hg : Gl X "int") (hm : X.mg "int" = none) (ha : RE X e f) (hs : starEach [e] X.env = (false, eval e X.env) :: starEach [] X.env := by rfl) (hpl : (backTo pos (starEach [] X.env)).any (·.1) = false := by rfl) :
    RE X (.Call (.Name "int" p) [e] [] pos) (cBlt (fun as => (bInt as).or (bIntS as)) (cACons f cANil)) :=
  re_callTy (call_int1.or call_int_str) (cd_int.or cd_intS) hg hm (by decide +kernel) (ra_cons ha ra_nil hs) (by decide) (by decide) hs hpl

/-! ### constants and tables of the top -/
/-- a constant of the module -/
def Cst (mg : Str → Option Value) (x : Str) (d : D) : Prop := ∃ u v, mg x = some u ∧ RelV v u ∧ ∀ K G, Im K G v d
theorem re_cst {x : Str} {d : D} {pos : Pos} (hg : Gl X x) (h : Cst X.mg x d) (hd : (x == ("__debug__" : Str)) = false := by decide) : RE X (.Name x pos) (cPure d) := by
  obtain ⟨u, v, hm, r, i⟩ := h
  exact re_pure (pe_glob hg hm r hd) fun G => i X.K G
/-- the entries of a table -/
inductive TabOk : List DictEntry → List (Str × D) → Prop where
  | nil : TabOk [] []
  | cons {e : DictEntry} {es : List DictEntry} {k : Str} {t : Tok} {d : D} {kds : List (Str × D)} {v : V} (h : e.key = .str k t) (r : RelV v e.val) (i : ∀ K G, Im K G v d) (rest : TabOk es kds) : TabOk (e :: es) ((k, d) :: kds)
/-- a dict of the module, of texts to atoms -/
def Tab (K : Fg) (w : World) (mg : Str → Option Value) (x : Str) (kds : List (Str × D)) : Prop := ∃ d es n, mg x = some (.ref d) ∧ KDict K w d es n ∧ TabOk es.toList kds
def tabAt (kds : List (Str × D)) (z : Str) : Option D := (kds.find? fun p => p.1 == z).map (·.2)
theorem TabOk.find {z : Str} : ∀ {es : List DictEntry} {kds : List (Str × D)}, TabOk es kds → es.any (·.refKey) = false ∧
    (match kds.find? fun p => p.1 == z with
      | some p => ∃ e v, es.find? (·.key.isStr z) = some e ∧ RelV v e.val ∧ ∀ K G, Im K G v p.2
      | none => es.find? (·.key.isStr z) = none)
  | _, _, .nil => ⟨rfl, rfl⟩
  | _, _, .cons (e := e) (es := es) (k := k) (d := d) (kds := kds) (v := v) h r i rest => by
    obtain ⟨h1, h2⟩ := rest.find (z := z)
    have hk : e.key.isStr z = (k == z) := by
      rw [h]
      rfl
    refine ⟨?_, ?_⟩
    · rw [List.any_cons, h1, Bool.or_false]
      unfold DictEntry.refKey
      rw [h]
    · rw [List.find?_cons, List.find?_cons]
      cases hz : (k == z) with
      | true =>
        simp only [hk, hz]
        exact ⟨e, v, rfl, r, i⟩
      | false =>
        simp only [hk, hz]
        exact h2
theorem tab_ns {K : Fg} {w : World} {d : Addr} {es : Array DictEntry} {n : Nat} {kds : List (Str × D)} (D0 : KDict K w d es n) (h : TabOk es.toList kds) (z : Str) :
    (tabAt kds z = none ∧ PySem.W.nsIn K d z = some none) ∨ ∃ x u v, tabAt kds z = some x ∧ PySem.W.nsIn K d z = some (some u) ∧ RelV v u ∧ ∀ K G, Im K G v x := by
  obtain ⟨h1, h2⟩ := h.find (z := z)
  unfold tabAt PySem.W.nsIn
  rw [D0.at_]
  cases q : kds.find? fun p => p.1 == z with
  | none =>
    rw [q] at h2
    refine .inl ⟨rfl, ?_⟩
    simp only [h2, h1]
    rfl
  | some p =>
    rw [q] at h2
    obtain ⟨e, v, e1, r, i⟩ := h2
    refine .inr ⟨p.2, e.val, v, rfl, ?_, r, i⟩
    simp only [e1]
def cInTab (neg : Bool) (kds : List (Str × D)) (f : Ev → Option (D × Ev)) : Ev → Option (D × Ev) := fun α => (f α).bind fun p => (asStr p.1).bind fun z => some (.bool (if neg then !(tabAt kds z).isSome else (tabAt kds z).isSome), p.2)
theorem re_inTab {x : Str} {a : Expr} {p pos : Pos} {kds : List (Str × D)} {f : Ev → Option (D × Ev)} (ha : RE X a f) (hg : Gl X x) (h : Tab X.K X.w X.mg x kds) (hd : (x == ("__debug__" : Str)) = false := by decide) (hm : behindInMarks .In (.Name x p) = false := by rfl) :
    RE X (.Compare a [.In] [.Name x p] pos) (cInTab false kds f) := by
  obtain ⟨d, es, n, m, D0, tb⟩ := h
  obtain ⟨t, pa, ka⟩ := ha
  refine ⟨_, pe_cmpR (op_in_kd D0) pa (pe_glob (v := .ref d) hg m rfl hd) hm, fun Y σ H G α e α' Q S hf hQ => ?_⟩
  obtain ⟨⟨d1, α1⟩, h1, hf⟩ := bind_some hf
  obtain ⟨z, h2, hf⟩ := bind_some hf
  cases hf
  have h2 : d1 = .str z := asStr_spec h2
  subst h2
  refine ka Y σ H G α _ _ _ S h1 fun v G1 H1 S1 s1 r1 => ?_
  cases r1
  rcases tab_ns D0 tb z with ⟨e1, e2⟩ | ⟨y, u, v, e1, e2, r, i⟩
  · refine ⟨z, none, rfl, rfl, e2, hQ _ G1 H1 S1 s1 ?_⟩
    rw [e1]
    exact .bl false
  · refine ⟨z, some u, rfl, rfl, e2, hQ _ G1 H1 S1 s1 ?_⟩
    rw [e1]
    exact .bl true
theorem re_notInTab {x : Str} {a : Expr} {p pos : Pos} {kds : List (Str × D)} {f : Ev → Option (D × Ev)} (ha : RE X a f) (hg : Gl X x) (h : Tab X.K X.w X.mg x kds) (hd : (x == ("__debug__" : Str)) = false := by decide) (hm : behindInMarks .NotIn (.Name x p) = false := by rfl) :
    RE X (.Compare a [.NotIn] [.Name x p] pos) (cInTab true kds f) := by
  obtain ⟨d, es, n, m, D0, tb⟩ := h
  obtain ⟨t, pa, ka⟩ := ha
  refine ⟨_, pe_cmpR (op_notIn_kd D0) pa (pe_glob (v := .ref d) hg m rfl hd) hm, fun Y σ H G α e α' Q S hf hQ => ?_⟩
  obtain ⟨⟨d1, α1⟩, h1, hf⟩ := bind_some hf
  obtain ⟨z, h2, hf⟩ := bind_some hf
  cases hf
  have h2 : d1 = .str z := asStr_spec h2
  subst h2
  refine ka Y σ H G α _ _ _ S h1 fun v G1 H1 S1 s1 r1 => ?_
  cases r1
  rcases tab_ns D0 tb z with ⟨e1, e2⟩ | ⟨y, u, v, e1, e2, r, i⟩
  · refine ⟨z, none, rfl, rfl, e2, hQ _ G1 H1 S1 s1 ?_⟩
    rw [e1]
    exact .bl true
  · refine ⟨z, some u, rfl, rfl, e2, hQ _ G1 H1 S1 s1 ?_⟩
    rw [e1]
    exact .bl false
def cIxTab (kds : List (Str × D)) (f : Ev → Option (D × Ev)) : Ev → Option (D × Ev) := fun α => (f α).bind fun p => (asStr p.1).bind fun z => (tabAt kds z).bind fun x => some (x, p.2)
theorem re_ixTab {x : Str} {b : Expr} {p pos : Pos} {kds : List (Str × D)} {f : Ev → Option (D × Ev)} (hb : RE X b f) (hg : Gl X x) (h : Tab X.K X.w X.mg x kds) (hd : (x == ("__debug__" : Str)) = false := by decide) (hs : PlainIx b := by exact fun _ _ => rfl) :
    RE X (.Subscript (.Name x p) b pos) (cIxTab kds f) := by
  obtain ⟨d, es, n, m, D0, tb⟩ := h
  obtain ⟨t, pb, kb⟩ := hb
  refine ⟨_, pe_ix ix_kdict (pe_glob (v := .ref d) hg m rfl hd) pb hs, fun Y σ H G α e α' Q S hf hQ => ?_⟩
  obtain ⟨⟨d1, α1⟩, h1, hf⟩ := bind_some hf
  obtain ⟨z, h2, hf⟩ := bind_some hf
  obtain ⟨y, h3, hf⟩ := bind_some hf
  cases hf
  have h2 : d1 = .str z := asStr_spec h2
  subst h2
  have h3 : tabAt kds z = some e := h3
  refine kb Y σ H G α _ _ _ S h1 fun v G1 H1 S1 s1 r1 => ?_
  cases r1
  rcases tab_ns D0 tb z with ⟨e1, e2⟩ | ⟨y, u, v, e1, e2, r, i⟩
  · rw [h3] at e1; cases e1
  · rw [h3] at e1; cases e1
    exact ⟨d, z, v, rfl, rfl, ⟨es, n, u, D0.at_, D0.lit, e2, r⟩, hQ v G1 H1 S1 s1 (i _ _)⟩
end
end Pv
set_option maxHeartbeats 4000000
/-! PvM: odds and ends of the data layer. -/
namespace Pv
open PySem PySem.Spec L2
/-- fuel for a while whose end its own body brings -/
def big : Nat := 100000
section
variable {P : Program} {w : World} {K : Fg} {mg : Str → Option Value} {base : Heap}
theorem Has.zero {x : Str} {st : Stmt} {ps : List Str} {k : Nat} {bor : List Nat} (T : Top K mg x st ps) : Has P w K mg base k x ps ⟨ps.length, bor, fun _ => none⟩ := by
  obtain ⟨f, fd, F, m, b⟩ := T
  refine ⟨f, fd, ⟨fun vs H Q E h => ?_, fun A outer s H args us vs Q E hr e0 hb r h => ?_⟩, m, F.kp, b⟩
  · obtain ⟨_, _, _, _, hl, _⟩ := h
    exact hl
  · obtain ⟨_, _, _, _, _, _, _, hf, _⟩ := h
    cases hf
end
section
variable {X : Cx}
theorem re_abs1 {e : Expr} {p pos : Pos} {f : Ev → Option (D × Ev)} (hg : Gl X "abs") (hm : X.mg "abs" = none) (ha : RE X e f) (hs : starEach [e] X.env = (false, eval e X.env) :: starEach [] X.env := by rfl) (hpl : (backTo pos (starEach [] X.env)).any (·.1) = false := by rfl) :
    RE X (.Call (.Name "abs" p) [e] [] pos) (cBlt bAbs (cACons f cANil)) :=
  re_callB call_abs cd_abs hg hm (by decide +kernel) (ra_cons ha ra_nil hs) (by decide) (by decide) hs hpl
/-! ### and, or, not as values: True, False ahead of the last -/
def cBand (fa fb : Ev → Option (D × Ev)) : Ev → Option (D × Ev) := fun α => (fa α).bind fun p => (asBool p.1).bind fun b => if b = true then fb p.2 else some (.bool false, p.2)
def cBor (fa fb : Ev → Option (D × Ev)) : Ev → Option (D × Ev) := fun α => (fa α).bind fun p => (asBool p.1).bind fun b => if b = true then some (.bool true, p.2) else fb p.2
def cNotE (fa : Ev → Option (Bool × Ev)) : Ev → Option (D × Ev) := fun α => (fa α).bind fun p => some (.bool (!p.1), p.2)
theorem asBool_spec {d : D} {b : Bool} (h : asBool d = some b) : d = .bool b := by
  cases d <;> first | (cases h; done) | (cases h; rfl)
variable {a b : Expr} {rest : List Expr} {pos : Pos} {fa fb : Ev → Option (D × Ev)}
theorem rb_one {op : BoolOp} (ha : RE X a fa) : RE X (.BoolOp op [a] pos) fa := by
  obtain ⟨t, p, k⟩ := ha
  exact ⟨t, pe_one p, k⟩
theorem rb_and (ha : RE X a fa) (hb : RE X (.BoolOp .And (b :: rest) pos) fb) : RE X (.BoolOp .And (a :: b :: rest) pos) (cBand fa fb) := by
  obtain ⟨t, p, k⟩ := ha
  obtain ⟨u, q, l⟩ := hb
  refine ⟨_, pe_and p q, fun Y σ H G α d α' Q S hf hQ => ?_⟩
  obtain ⟨⟨d1, α1⟩, h1, hf⟩ := bind_some hf
  obtain ⟨c, h2, hf⟩ := bind_some hf
  have h2 : d1 = .bool c := asBool_spec h2
  subst h2
  refine k Y σ H G α _ α1 _ S h1 fun v G1 H1 S1 s1 r1 => ?_
  cases r1
  refine ⟨c, rfl, ?_⟩
  cases c with
  | true =>
    simp only [asBool, Option.bind_some, if_true] at hf ⊢
    exact l Y σ H1 G1 α1 d α' Q S1 hf fun v G2 H2 S2 s2 r2 => hQ v G2 H2 S2 (s1.trans s2) r2
  | false =>
    simp only [asBool, Option.bind_some, Bool.false_eq_true, if_false] at hf ⊢
    cases hf
    exact hQ _ G1 H1 S1 s1 (.bl _)
theorem rb_or (ha : RE X a fa) (hb : RE X (.BoolOp .Or (b :: rest) pos) fb) : RE X (.BoolOp .Or (a :: b :: rest) pos) (cBor fa fb) := by
  obtain ⟨t, p, k⟩ := ha
  obtain ⟨u, q, l⟩ := hb
  refine ⟨_, pe_or p q, fun Y σ H G α d α' Q S hf hQ => ?_⟩
  obtain ⟨⟨d1, α1⟩, h1, hf⟩ := bind_some hf
  obtain ⟨c, h2, hf⟩ := bind_some hf
  have h2 : d1 = .bool c := asBool_spec h2
  subst h2
  refine k Y σ H G α _ α1 _ S h1 fun v G1 H1 S1 s1 r1 => ?_
  cases r1
  refine ⟨c, rfl, ?_⟩
  cases c with
  | false =>
    simp only [asBool, Option.bind_some, Bool.false_eq_true, if_false] at hf ⊢
    exact l Y σ H1 G1 α1 d α' Q S1 hf fun v G2 H2 S2 s2 r2 => hQ v G2 H2 S2 (s1.trans s2) r2
  | true =>
    simp only [asBool, Option.bind_some, if_true] at hf ⊢
    cases hf
    exact hQ _ G1 H1 S1 s1 (.bl _)
/-- not x as a value, x True or False -/
theorem re_notE (ha : RE X a fa) : RE X (.UnaryOp .Not a pos) (cNotE (cT fa)) := by
  obtain ⟨t, p, k⟩ := ha
  refine ⟨_, pe_not p, fun Y σ H G α d α' Q S hf hQ => ?_⟩
  obtain ⟨⟨c, α1⟩, h1, hf⟩ := bind_some hf
  cases hf
  obtain ⟨⟨d1, α2⟩, h2, h1⟩ := bind_some h1
  obtain ⟨c2, h3, h1⟩ := bind_some h1
  cases h1
  have h3 : d1 = .bool c := asBool_spec h3
  subst h3
  refine k Y σ H G α _ _ _ S h2 fun v G1 H1 S1 s1 r1 => ?_
  cases r1
  exact ⟨c, rfl, hQ _ G1 H1 S1 s1 (.bl _)⟩
/-- in, not in a table, as a test -/
theorem rt_inTab {x : Str} {p : Pos} {kds : List (Str × D)} {f : Ev → Option (D × Ev)} (ha : RE X a f) (hg : Gl X x) (h : Tab X.K X.w X.mg x kds) (hd : (x == ("__debug__" : Str)) = false := by decide) (hm : behindInMarks .In (.Name x p) = false := by rfl) :
    RT X (.Compare a [.In] [.Name x p] pos) (cT (cInTab false kds f)) := by
  obtain ⟨d, es, n, m, D0, tb⟩ := h
  obtain ⟨t, pa, ka⟩ := ha
  refine ⟨_, pt_cmpR (op_in_kd D0) pa (pe_glob (v := .ref d) hg m rfl hd) hm, fun Y σ H G α e α' Q S hf hQ => ?_⟩
  obtain ⟨⟨d0, α0⟩, h0, hf⟩ := bind_some hf
  obtain ⟨⟨d1, α1⟩, h1, h0⟩ := bind_some h0
  obtain ⟨z, h2, h0⟩ := bind_some h0
  cases h0
  have h2 : d1 = .str z := asStr_spec h2
  subst h2
  refine ka Y σ H G α _ _ _ S h1 fun v G1 H1 S1 s1 r1 => ?_
  cases r1
  rcases tab_ns D0 tb z with ⟨e1, e2⟩ | ⟨y, u, v, e1, e2, r, i⟩
  · refine ⟨z, none, rfl, rfl, e2, _, rfl, ?_⟩
    rw [e1] at hf
    cases hf
    exact hQ G1 H1 S1 s1
  · refine ⟨z, some u, rfl, rfl, e2, _, rfl, ?_⟩
    rw [e1] at hf
    cases hf
    exact hQ G1 H1 S1 s1
theorem rt_notInTab {x : Str} {p : Pos} {kds : List (Str × D)} {f : Ev → Option (D × Ev)} (ha : RE X a f) (hg : Gl X x) (h : Tab X.K X.w X.mg x kds) (hd : (x == ("__debug__" : Str)) = false := by decide) (hm : behindInMarks .NotIn (.Name x p) = false := by rfl) :
    RT X (.Compare a [.NotIn] [.Name x p] pos) (cT (cInTab true kds f)) := by
  obtain ⟨d, es, n, m, D0, tb⟩ := h
  obtain ⟨t, pa, ka⟩ := ha
  refine ⟨_, pt_cmpR (op_notIn_kd D0) pa (pe_glob (v := .ref d) hg m rfl hd) hm, fun Y σ H G α e α' Q S hf hQ => ?_⟩
  obtain ⟨⟨d0, α0⟩, h0, hf⟩ := bind_some hf
  obtain ⟨⟨d1, α1⟩, h1, h0⟩ := bind_some h0
  obtain ⟨z, h2, h0⟩ := bind_some h0
  cases h0
  have h2 : d1 = .str z := asStr_spec h2
  subst h2
  refine ka Y σ H G α _ _ _ S h1 fun v G1 H1 S1 s1 r1 => ?_
  cases r1
  rcases tab_ns D0 tb z with ⟨e1, e2⟩ | ⟨y, u, v, e1, e2, r, i⟩
  · refine ⟨z, none, rfl, rfl, e2, _, rfl, ?_⟩
    rw [e1] at hf
    cases hf
    exact hQ G1 H1 S1 s1
  · refine ⟨z, some u, rfl, rfl, e2, _, rfl, ?_⟩
    rw [e1] at hf
    cases hf
    exact hQ G1 H1 S1 s1
end
end Pv
set_option maxHeartbeats 4000000
/-! PvT: the same where a token has been given out (str.replace asks for it). -/
namespace Pv
open PySem PySem.Spec L2

/-! ### expressions -/
def QE (X : Cx) (e : Expr) (f : Ev → Option (D × Ev)) : Prop :=
  ∃ t, PET X e t ∧ ∀ (Y : Ent) (σ : L2.St) (H G : Hp) (α : Ev) (d : D) (α' : Ev) (Q : VK), SR X.K Y G H σ α → f α = some (d, α') →
    (∀ v G' H', SR X.K Y G' H' σ α' → Same G G' → Im X.K G' v d → Q v H') → t σ H Q
/-- with the token kept -/
theorem thT {α : Type} {t : Sem α} {Q Q' : α → Shared → Prop} {M : Model} {A : Around} {E : Value → Shared → Prop} {s : Shared} (h0 : 1 ≤ s.toks) (h : wpAny M A t Q E s) (k : ∀ a s', 1 ≤ s'.toks → Q a s' → Q' a s') : wpAny M A t Q' E s :=
  wpAny_with_toks h0 (wpAny_mono h (fun a s' q h1 => k a s' h1 q) fun _ _ x _ => x)
section
variable {X : Cx} {e o : Expr} {es : List Expr} {pos : Pos}
theorem QE.of {f : Ev → Option (D × Ev)} (h : RE X e f) : QE X e f := by
  obtain ⟨t, p, k⟩ := h
  exact ⟨t, fun pins s σ H Q _ I q => p.run pins s σ H Q I q, k⟩
theorem qe_op {op : Operator} {r : R2} {g : D → D → Option D} {a b : Expr} {fa fb : Ev → Option (D × Ev)} (ho : OpR X (binaryOp op) r) (hg : OpD X r g) (ha : QE X a fa) (hb : QE X b fb) : QE X (.BinOp a op b pos) (cOp g fa fb) := by
  obtain ⟨ta, pa, ka⟩ := ha
  obtain ⟨tb, pb, kb⟩ := hb
  refine ⟨_, CwR.pet_op ho pa pb, fun Y σ H G α d α' Q S hf hQ => ?_⟩
  obtain ⟨⟨d1, α1⟩, h1, hf⟩ := bind_some hf
  obtain ⟨⟨d2, α2⟩, h2, hf⟩ := bind_some hf
  obtain ⟨d3, h3, hf⟩ := bind_some hf
  cases hf
  exact two_run (a := a) (b := b) ka kb S h1 h2 fun x y G' H' S' s' rx ry => hg Y σ H' G' _ d1 d2 _ x y Q S' rx ry h3 fun v G2 H2 S2 s2 r2 => hQ v G2 H2 S2 (s'.trans s2) r2
theorem qe_add {a b : Expr} {fa fb : Ev → Option (D × Ev)} (ha : QE X a fa) (hb : QE X b fb) : QE X (.BinOp a .Add b pos) (cOp dAdd fa fb) := qe_op (op_add.or (op_add_str.or op_catT)) (od_add.or (od_addS.or od_addT)) ha hb
/-- a written text first: a token is out for what follows -/
theorem re_tok {b : Expr} {x : Str} {j : Nat} {cp : Pos} {fb : Ev → Option (D × Ev)} (hb : QE X b fb) : RE X (.BinOp (.Constant (.str x) j cp) .Add b pos) (cOp dAdd (cPure (.str x)) fb) := by
  obtain ⟨tb, pb, kb⟩ := hb
  refine ⟨tOp (fun x y H Q => rI0 (fun i j => .int (i + j)) x y H Q ∨ ((∃ i j, x = V.str i ∧ y = V.str j ∧ i.length + j.length ≤ sizeLine ∧ Q (V.str (i ++ j)) H) ∨ rCatT X.K x y H Q)) (tC (.str x)) tb, ⟨fun pins s σ H Q I h => ?_⟩, fun Y σ H G α d α' Q S hf hQ => ?_⟩
  · refine wpAny_BinOp (Calls.Constant_str ?_)
    refine wpAny_mono (pb pins { s with toks := s.toks + 1 } σ H _ (by show 1 ≤ s.toks + 1; omega) (I.tok _) h) (fun u s2 ⟨y, H2, I2, r2, q2⟩ => ?_) fun _ _ z => z
    exact (op_add.or (op_add_str.or op_catT)) pins s2 σ H2 (V.str x) y _ u Q I2 ⟨_, rfl⟩ r2 q2
  · obtain ⟨⟨d1, α1⟩, h1, hf⟩ := bind_some hf
    cases h1
    obtain ⟨⟨d2, α2⟩, h2, hf⟩ := bind_some hf
    obtain ⟨d3, h3, hf⟩ := bind_some hf
    cases hf
    exact kb Y σ H G _ d2 _ _ S h2 fun y G2 H2 S2 s2 r2 => (od_add.or (od_addS.or od_addT)) Y σ H2 G2 _ _ d2 _ _ y Q S2 (.str x) r2 h3 fun v G3 H3 S3 s3 r3 => hQ v G3 H3 S3 (s2.trans s3) r3
/-- e.replace('..', '..') -/
def cRepl (y z : Str) (f : Ev → Option (D × Ev)) : Ev → Option (D × Ev) := fun α => (f α).bind fun p => (asStr p.1).bind fun x => if x.length + (x.length + 1) * z.length ≤ 16777216 then some (.str (Txt.replace x y z), p.2) else none
theorem repl_sem {K : Fg} {y z : Str} {f : Ev → Option (D × Ev)} {to : TE} (hK : X.K = K)
    (k : ∀ (Y : Ent) (σ : L2.St) (H G : Hp) (α : Ev) (d : D) (α' : Ev) (Q : VK), SR X.K Y G H σ α → f α = some (d, α') → (∀ v G' H', SR X.K Y G' H' σ α' → Same G G' → Im X.K G' v d → Q v H') → to σ H Q)
    {Y : Ent} {σ : L2.St} {H G : Hp} {α : Ev} {d : D} {α' : Ev} {Q : VK} (S : SR X.K Y G H σ α) (hf : cRepl y z f α = some (d, α')) (hQ : ∀ v G' H', SR X.K Y G' H' σ α' → Same G G' → Im X.K G' v d → Q v H') : CwR.tReplC to y z σ H Q := by
  obtain ⟨⟨d1, α1⟩, h1, hf⟩ := bind_some hf
  obtain ⟨x, h2, hf⟩ := bind_some hf
  have h2 : d1 = .str x := asStr_spec h2
  subst h2
  split at hf
  · cases hf
    refine k Y σ H G α _ _ _ S h1 fun v G1 H1 S1 s1 r1 => ?_
    cases r1
    exact ⟨x, rfl, by assumption, hQ _ G1 H1 S1 s1 (.str _)⟩
  · cases hf
theorem qe_repl {y z : Str} {j k : Nat} {c0 c1 apos : Pos} {f : Ev → Option (D × Ev)} (ho : QE X o f) (hyz : (y == z) = false := by decide)
    (hst : starEach [.Constant (.str y) j c0, .Constant (.str z) k c1] X.env = [(false, eval (.Constant (.str y) j c0) X.env), (false, eval (.Constant (.str z) k c1) X.env)] := by rfl)
    (hbase : attributeBase o "replace" X.env (eval o X.env) = eval o X.env := by rfl) (hline : (apos.endLine == pos.line) = true := by rfl) :
    QE X (.Call (.Attribute o "replace" apos) [.Constant (.str y) j c0, .Constant (.str z) k c1] [] pos) (cRepl y z f) := by
  obtain ⟨t, p, kk⟩ := ho
  exact ⟨_, CwR.pet_replT p hyz hst hbase hline, fun Y σ H G α d α' Q S hf hQ => repl_sem rfl kk S hf hQ⟩
end
/-! ### statements, defs -/
abbrev SemS (X : Cx) (bor : List Nat) (g : Ev → Option Out) (t : TS) : Prop := ∀ (Y : Ent) (σ : L2.St) (H G : Hp) (α : Ev) (o : Out) (Dn : Ends), Bor Y bor → SR X.K Y G H σ α → g α = some o → OutOk X.K Y G Dn o → t Dn σ H
def QS (X : Cx) (bor : List Nat) (st : Stmt) (g : Ev → Option Out) : Prop := ∃ t, PST X st t ∧ SemS X bor g t
def QSs (X : Cx) (bor : List Nat) (sts : List Stmt) (g : Ev → Option Out) : Prop := ∃ t, PSsT X sts t ∧ SemS X bor g t
section
variable {X : Cx} {bor : List Nat} {st : Stmt} {sts : List Stmt} {g h : Ev → Option Out} {e : Expr} {pos : Pos}
theorem QS.of (k : RS X bor st g) : QS X bor st g := by
  obtain ⟨t, p, k⟩ := k
  exact ⟨t, PST.of p, k⟩
theorem QSs.of (k : RSs X bor sts g) : QSs X bor sts g := by
  obtain ⟨t, p, k⟩ := k
  exact ⟨t, PSsT.of p, k⟩
theorem qss_nil : QSs X bor [] sSkip := .of rss_nil
theorem qss_cons (hs : QS X bor st g) (hr : QSs X bor sts h) : QSs X bor (st :: sts) (sSeq g h) := by
  obtain ⟨t, p, k⟩ := hs
  obtain ⟨u, q, l⟩ := hr
  refine ⟨_, psst_cons p q, fun Y σ H G α o Dn hb S hf hQ => ?_⟩
  obtain ⟨o1, h1, hf⟩ := bind_some hf
  refine k Y σ H G α o1 _ hb S h1 ?_
  cases o1 with
  | nx α1 => exact fun σ' G' H' S' s' => l Y σ' H' G' α1 o Dn hb S' hf (hQ.later s')
  | bk α1 => cases hf; exact hQ
  | ct α1 => cases hf; exact hQ
  | rt d α1 => cases hf; exact hQ
theorem qss_one (hs : QS X bor st g) : QSs X bor [st] g := by
  obtain ⟨t, p, k⟩ := hs
  exact ⟨_, CwR.psst_one p, fun Y σ H G α o Dn hb S hf hQ => k Y σ H G α o _ hb S hf (by cases o <;> exact hQ)⟩
theorem qs_ret {f : Ev → Option (D × Ev)} (he : QE X e f) : QS X bor (.Return (some e) pos) (sRet f) := by
  obtain ⟨t, p, k⟩ := he
  refine ⟨_, CwR.pst_ret p, fun Y σ H G α o Dn hb S hf hQ => ?_⟩
  obtain ⟨⟨d, α1⟩, h1, hf⟩ := bind_some hf
  cases hf
  exact k Y σ H G α d α1 _ S h1 fun v G1 H1 S1 s1 r1 => hQ v σ G1 H1 S1 s1 r1
theorem qs_if {c : Expr} {a b : List Stmt} {fc : Ev → Option (Bool × Ev)} (hc : RT X c fc) (ha : QSs X bor a g) (hb : QSs X bor b h) : QS X bor (.If c a b pos) (cIf fc g h) := by
  obtain ⟨t, p, k⟩ := hc
  obtain ⟨ta, pa, ka⟩ := ha
  obtain ⟨tb, pb, kb⟩ := hb
  refine ⟨_, CwR.pst_if p pa pb, fun Y σ H G α o Dn hb' S hf hQ => ?_⟩
  obtain ⟨⟨b1, α1⟩, h1, hf⟩ := bind_some hf
  refine k Y σ H G α b1 α1 _ S h1 fun G1 H1 S1 s1 => ?_
  cases b1 with
  | true => rw [if_pos rfl] at hf ⊢; exact ka Y σ H1 G1 α1 o Dn hb' S1 hf (hQ.later s1)
  | false => rw [if_neg Bool.false_ne_true] at hf ⊢; exact kb Y σ H1 G1 α1 o Dn hb' S1 hf (hQ.later s1)
theorem qss_freeze (i : Nat) (h : QSs X bor sts g) (hib : i ∉ bor := by decide) : QSs X bor sts (sFrz i g) := by
  obtain ⟨t, p, k⟩ := h
  refine ⟨t, p, fun Y σ H G α o Dn hb S hf hQ => ?_⟩
  obtain ⟨G', S', s'⟩ := S.frz i (hb.free hib)
  exact k Y σ H G' _ o Dn hb S' hf (hQ.later s')
/-- name = e -/
theorem qs_set {i : Nat} {x : Str} {f : Ev → Option (D × Ev)} {pos' : Pos} (hN : X.N.Nodup) (hi : X.N[i]? = some x) (hx : Loc X.env.scope x) (he : QE X e f) (hs : swapsWith e (some (.Name x pos')) pos.line X.env = pure false := by rfl) (hf : X.fn x = true ∨ X.env.scope.names.lookup x = some .local := by first | exact .inl rfl | exact .inr rfl | assumption) :
    QS X bor (.Assign [.Name x pos'] e pos) (sSet i f) := by
  obtain ⟨t, p, k⟩ := he
  refine ⟨fun D σ H => t σ H fun v H1 => D.nx (σ.set i (some v)) H1, fun pins s σ H D h0 I h => ?_, fun Y σ H G α o Dn hb S hf hQ => ?_⟩
  · refine wpAny_Assign_Name (thn (p pins s σ H _ h0 I h) fun v s1 ⟨y, H1, I1, r1, q1⟩ => ?_) hs
    exact store_ok I1 hN hi hx r1 (fun _ I2 => ⟨_, H1, I2, q1⟩) hf
  · obtain ⟨⟨d, α1⟩, e1, hf⟩ := bind_some hf
    cases hf
    exact k Y σ H G α d α1 _ S e1 fun v G1 H1 S1 s1 r1 => hQ _ G1 H1 (S1.set_im r1) s1
end
section
variable {P : Program} {w : World} {K : Fg} {mg : Str → Option Value} {base : Heap}
/-- a def with a parameter, without cells: its body has a token -/
theorem Has.mkT {x : Str} {st : Stmt} {ps N : List Str} {k n : Nat} {bor : List Nat} {g : Ev → Option Out} (T : Top K mg x st ps) (S : FnScope N ps (defScope st)) (hn : N.length - ps.length = n) (hnc : ∀ y ∈ (defScope st).names, y.2 ≠ .cell) (hps : 1 ≤ ps.length)
    (hbody : ∀ (f : Addr) (cdv : Value) (A : Around) (outer : List Env) (s : Shared) (H : Hp) (E : XK), Room k (A.deeper (PyProof.Rows.envOfC x (defScope st) s.heap.objs.size f cdv)) → QSs (cxOf CX0 P w K mg base N x (defScope st) f cdv A outer s H E).nox bor (defBody st) g) :
    Has P w K mg base (k + 1) x ps ⟨ps.length, bor, fnD n g⟩ := by
  obtain ⟨f, fd, F, m, b⟩ := T
  obtain ⟨oc, od, kV, doc, pm, an, cdv, ct, osl, rfl, lk, hcd⟩ := F.ex
  refine ⟨f, _, fn_ofT lk hcd S hnc hps (fun vs H Q E h => ?_) (fun A outer s H vs Q E hr h => ?_), m, F.kp, b⟩
  · obtain ⟨_, _, _, _, hl, _⟩ := h
    exact hl
  · obtain ⟨t, p, kt⟩ := hbody f cdv A outer s H E hr
    refine ⟨t, fun pins s σ H D h0 I hw => ?_, fn_run hn kt h⟩
    exact wpAny_mono (p pins s σ H D h0 (I.wish _) hw) (fun _ _ q => q.unwish) fun _ _ z => False.elim z
end
end Pv
set_option maxHeartbeats 4000000
/-! PvS: texts by their signs. -/
namespace Pv
open PySem PySem.Builtin PySem.Builtin.Str PySem.StrLaws
open L2 (cutS)
abbrev sg (x : Str) : List Nat := x.cps.toList
abbrev mk (l : List Nat) : Str := ⟨l.toArray⟩
theorem mk_sg (x : Str) : mk (sg x) = x := TL.mk_tl x
theorem mk_len (l : List Nat) : (mk l).length = l.length := by simp [mk, Str.length]
theorem mk_inj {a b : List Nat} (h : mk a = mk b) : a = b := congrArg (fun x : Str => x.cps.toList) h
theorem mk_cat (a b : List Nat) : mk a ++ mk b = mk (a ++ b) := TL.ext_tl (TL.tl_append (mk a) (mk b))
/-- slices -/
theorem cut_nat (l : List Nat) (i j : Nat) : cutS (mk l) (some (i : Int)) (some (j : Int)) = mk ((l.drop i).take (j - i)) := by
  unfold cutS
  rw [HT.sIx_nat, HT.sIx_nat, mk_len]
  show mk ((l.drop _).take _) = _
  congr 1
  by_cases h : i ≤ l.length
  · rw [Nat.min_eq_left h]
    by_cases hj : j ≤ l.length
    · rw [Nat.min_eq_left hj]
    · rw [Nat.min_eq_right (by omega), List.take_of_length_le (by rw [List.length_drop]; omega), List.take_of_length_le (by rw [List.length_drop]; omega)]
  · rw [List.drop_eq_nil_of_le (by omega), List.drop_eq_nil_of_le (by omega)]
    simp
theorem cut_to (l : List Nat) (j : Nat) : cutS (mk l) none (some (j : Int)) = mk (l.take j) := by
  unfold cutS
  rw [HT.sIx_nat, HT.sIx_none, mk_len]
  show mk ((l.drop 0).take _) = _
  rw [List.drop_zero, Nat.sub_zero]
  congr 1
  by_cases h : j ≤ l.length
  · rw [Nat.min_eq_left h]
  · rw [Nat.min_eq_right (by omega), List.take_of_length_le (by omega), List.take_of_length_le (by omega)]
/-- join -/
theorem join_mk (a : List Nat) (ys : List (List Nat)) : Txt.join (mk a) (ys.map mk) = mk (TL.joinL a ys) := by
  refine TL.ext_tl ?_
  rw [TL.join_eq, TL.tl_join]
  show TL.joinL a _ = TL.joinL a ys
  congr 1
  rw [List.map_map]
  exact List.map_id'' (fun _ => rfl) ys
theorem joinL_nil (ys : List (List Nat)) : TL.joinL [] ys = ys.flatten := by
  induction ys with
  | nil => rfl
  | cons p r ih =>
    cases r with
    | nil => simp [TL.joinL]
    | cons q r => show p ++ ([] ++ TL.joinL [] (q :: r)) = _; rw [ih]; rfl
theorem joinL_cons (z p : List Nat) {r : List (List Nat)} (h : r ≠ []) : TL.joinL z (p :: r) = p ++ (z ++ TL.joinL z r) := by
  cases r with
  | nil => exact (h rfl).elim
  | cons q r => rfl
/-- lstrip of the signs of a set -/
theorem lstrip_mk (l b : List Nat) : Txt.lstripChars (mk l) (mk b) = mk (l.dropWhile fun c => b.contains c) := by
  refine TL.ext_tl ?_
  unfold Txt.lstripChars
  rw [PyProof.Rows.stripBy_eq, TL.tl_strSub]
  show (l.drop _).take _ = l.dropWhile fun c => b.contains c
  have e1 : stripLo (mk b).cps.contains true (mk l) = (l.takeWhile fun c => b.contains c).length := by
    unfold stripLo
    rw [if_pos rfl]
    show (l.takeWhile (fun c => (b.toArray).contains c)).length = _
    congr 2
    funext c
    rw [← Array.contains_toList]
  have e2 : ∀ k, stripHi (mk b).cps.contains false (mk l) k = l.length := fun k => by
    unfold stripHi
    simp [mk_len]
  rw [e2, e1]
  have e3 : l.drop (l.takeWhile fun c => b.contains c).length = l.dropWhile fun c => b.contains c := by
    generalize (fun c => b.contains c) = p
    conv => lhs; arg 2; rw [← List.takeWhile_append_dropWhile (p := p) (l := l)]
    exact List.drop_left' rfl
  rw [e3]
  refine List.take_of_length_le ?_
  have := congrArg List.length (List.takeWhile_append_dropWhile (p := fun c => b.contains c) (l := l))
  rw [List.length_append] at this
  omega
/-- replace of one sign -/
theorem spl_one (c d : Nat) (acc r : List Nat) : TL.spl [c] 0 acc (d :: r) = if d = c then acc :: TL.spl [c] 0 [] r else TL.spl [c] 0 (acc ++ [d]) r := by
  by_cases h : d = c
  · subst h
    rw [if_pos rfl]
    exact TL.spl_hit (TL.pre_self [d] r)
  · rw [if_neg h]
    exact TL.spl_miss (TL.pre_of_head [] r h)
theorem spl_ne (c : Nat) : ∀ (l acc : List Nat), TL.spl [c] 0 acc l ≠ []
  | [], acc => by rw [TL.spl_nil]; simp
  | d :: r, acc => by
    rw [spl_one]
    split
    · simp
    · exact spl_ne c r _
theorem joinL_spl (c : Nat) (z : List Nat) : ∀ (l acc : List Nat), TL.joinL z (TL.spl [c] 0 acc l) = acc ++ l.flatMap fun d => if d = c then z else [d]
  | [], acc => by rw [TL.spl_nil]; simp [TL.joinL]
  | d :: r, acc => by
    rw [spl_one]
    by_cases h : d = c
    · rw [if_pos h, joinL_cons _ _ (spl_ne c r []), joinL_spl c z r []]
      simp [h]
    · rw [if_neg h, joinL_spl c z r]
      simp [h]
theorem repl_mk (l : List Nat) (c : Nat) (z : List Nat) : Txt.replace (mk l) (mk [c]) (mk z) = mk (l.flatMap fun d => if d = c then z else [d]) := by
  refine TL.ext_tl ?_
  have hy : TL.tl (mk [c]) ≠ [] := by show [c] ≠ []; simp
  obtain ⟨f, g, hn⟩ := occ_tight (mk l) (mk [c]) (TL.len1 hy)
  have key := TL.parts_spl hy _ 0 f (Nat.zero_le _) g hn
  rw [List.drop_zero] at key
  have fin : TL.tl (glued (mk z) (partsBetween (mk l) (occurrences (mk l) (mk [c]) 0 (mk l).length ((mk l).length + 1)) (mk [c]).length)) = l.flatMap fun d => if d = c then z else [d] := by
    rw [glued_eq_join, TL.tl_join, partsBetween_eq, key]
    show TL.joinL z (TL.spl [c] 0 [] l) = _
    rw [joinL_spl]
    rfl
  unfold Txt.replace
  split
  · rename_i h
    rw [Bool.or_eq_true] at h
    have h : (occurrences (mk l) (mk [c]) 0 (mk l).length ((mk l).length + 1)).isEmpty = true := by
      rcases h with h | h
      · exact h
      · rw [Bool.and_eq_true] at h
        have h := h.1
        rw [mk_len] at h
        cases h
    rw [List.isEmpty_iff.mp h] at fin
    rw [← fin, partsBetween_eq]
    show _ = TL.tl (glued (mk z) [strSub (mk l) 0 (mk l).length])
    rw [sub_whole, glued_eq_join]
    rfl
  · exact fin
/-- find of one sign between places -/
theorem tw_len {c : Nat} : ∀ {l : List Nat} {k : Nat}, l[k]? = some c → (∀ j, j < k → l[j]? ≠ some c) → (l.takeWhile (· != c)).length = k
  | [], k, h, _ => by simp at h
  | d :: r, 0, h, _ => by
    cases h
    simp
  | d :: r, k + 1, h, hn => by
    have hd : d ≠ c := fun e => hn 0 (by omega) (by rw [e]; rfl)
    have ih := tw_len (l := r) (k := k) h fun j hj => hn (j + 1) (by omega)
    rw [List.takeWhile_cons, if_pos (by simpa using hd), List.length_cons, ih]
theorem range_split {lo n a : Nat} {pre post : List Nat} (h : List.range' lo n = pre ++ a :: post) : ∀ k, lo ≤ k → k < a → k ∈ pre := by
  intro k h1 h2
  have hk : k ∈ List.range' lo n := by
    have : a ∈ List.range' lo n := by rw [h]; simp
    rw [List.mem_range'_1] at this ⊢
    omega
  have hs : List.Pairwise (· < ·) (List.range' lo n) := List.pairwise_lt_range'
  rw [h] at hk hs
  rcases List.mem_append.mp hk with q | q
  · exact q
  · rcases List.mem_cons.mp q with q | q
    · omega
    · have := (List.pairwise_cons.mp (List.pairwise_append.mp hs).2.1).1 k q
      omega
def find1 (l : List Nat) (c lo hi : Nat) : Int := if c ∈ (l.drop lo).take (hi - lo) then ((lo + (((l.drop lo).take (hi - lo)).takeWhile (· != c)).length : Nat) : Int) else -1
theorem seg_get (l : List Nat) (lo hi k : Nat) : ((l.drop lo).take (hi - lo))[k]? = if lo + k < hi then l[lo + k]? else none := by
  rw [List.getElem?_take]
  by_cases h : k < hi - lo
  · rw [if_pos h, if_pos (by omega), List.getElem?_drop]
  · rw [if_neg h, if_neg (by omega)]
theorem find_mk (l : List Nat) (c lo hi : Nat) (h2 : hi ≤ l.length) : Txt.findIn (mk l) (mk [c]) (lo : Int) (hi : Int) = find1 l c lo hi := by
  unfold Txt.findIn find1
  have e1 : fromIndex (mk l).length (lo : Int) = lo := by
    unfold fromIndex
    rw [if_neg (by omega)]
    omega
  have e2 : toIndexW (mk l).length (hi : Int) = hi := by
    unfold toIndexW
    rw [if_neg (by omega), mk_len]
    omega
  rw [e1, e2, occ_eq]
  have at_iff : ∀ i, At (mk l) (mk [c]) hi i ↔ (i < hi ∧ l[i]? = some c) := fun i => by
    have e := subAt_one (mk l) c i
    unfold At
    constructor
    · intro ⟨h3, h4⟩
      have h3 : i + 1 ≤ hi := h3
      exact ⟨by omega, e.mp ⟨by show i + 1 ≤ (mk l).length; rw [mk_len]; omega, h4⟩⟩
    · intro ⟨h3, h4⟩
      exact ⟨by show i + 1 ≤ hi; omega, (e.mpr h4).2⟩
  rcases occ_first (mk l) (mk [c]) hi 1 (Nat.le_refl _) (List.range' lo (hi + 1 - lo)) lo (fun i hi' => by rw [List.mem_range'_1] at hi'; omega) with ⟨h0, hn⟩ | ⟨pre, a, post, e, h0, ha, hn⟩
  · rw [h0]
    have : c ∉ (l.drop lo).take (hi - lo) := fun hm => by
      obtain ⟨k, hk⟩ := List.mem_iff_getElem?.mp hm
      rw [seg_get] at hk
      split at hk
      · exact hn (lo + k) (by rw [List.mem_range'_1]; omega) ((at_iff _).mpr ⟨by omega, hk⟩)
      · cases hk
    rw [if_neg this]
  · have am : a ∈ List.range' lo (hi + 1 - lo) := by rw [e]; simp
    rw [List.mem_range'_1] at am
    obtain ⟨h3, h4⟩ := (at_iff a).mp ha
    have hs : ((l.drop lo).take (hi - lo))[a - lo]? = some c := by
      rw [seg_get, if_pos (by omega), show lo + (a - lo) = a by omega, h4]
    have hc : c ∈ (l.drop lo).take (hi - lo) := List.mem_iff_getElem?.mpr ⟨_, hs⟩
    rw [if_pos hc, tw_len hs fun j hj q => ?_]
    · generalize (forIn (List.range' lo (hi + 1 - lo)) ((#[] : Array Nat), lo) (occBody (mk l) (mk [c]) hi 1)).run.fst = arr at h0
      have : arr.toList[0]? = some a := by rw [Array.getElem?_toList]; exact h0
      cases hl : arr.toList with
      | nil => rw [hl] at this; cases this
      | cons b r =>
        rw [hl] at this
        cases this
        show (a : Int) = _
        omega
    · rw [seg_get] at q
      split at q
      · exact hn (lo + j) (range_split e _ (by omega) (by omega)) ((at_iff _).mpr ⟨by omega, q⟩)
      · cases q
/-- numbers in text -/
def intL (i : Int) : List Nat := if i < 0 then 45 :: TL.numL i.natAbs else TL.numL i.natAbs
theorem ofStr_append (a b : String) : Str.ofString (a ++ b) = Str.ofString a ++ Str.ofString b := by
  refine TL.ext_tl ?_
  rw [TL.tl_append, TL.tl_ofString, TL.tl_ofString, TL.tl_ofString]
  simp
theorem int_mk (i : Int) : (Str.ofString (toString i)) = mk (intL i) := by
  unfold intL
  split
  · rename_i h
    rw [PyProof.Rows.toString_neg h, ofStr_append]
    have e : (0 - i) = ((i.natAbs : Nat) : Int) := by omega
    rw [e]
    refine TL.ext_tl ?_
    rw [TL.tl_append, TL.tl_num, TL.tl_ofString]
    rfl
  · rename_i h
    have e : i = ((i.natAbs : Nat) : Int) := by omega
    conv => lhs; rw [e]
    exact TL.ext_tl (TL.tl_num _)
end Pv
set_option maxHeartbeats 4000000
namespace Law
open PySem PySem.Spec L2 Pv
def top (i : Nat) : Stmt := PySem.Challenge.pw_seawise_k34_plain_there_and_back.main.body.getD i (.Pass ⟨0, 0, 0, 0⟩)
structure Bl (mg : Str → Option Value) : Prop where
  x_bool : mg "bool" = none
  x_int : mg "int" = none
  x_isinstance : mg "isinstance" = none
  x_len : mg "len" = none
  x_range : mg "range" = none
  x_str : mg "str" = none
  x_tuple : mg "tuple" = none
def t_ESCAPES : List (Str × D) := [("\"", (.str "\"")), ("\\", (.str "\\")), ("n", (.str "\n"))]
def t_WORDS : List (Str × D) := [("T", (.bool true)), ("F", (.bool false)), ("N", .none)]
structure Cs (K : Fg) (w : World) (mg : Str → Option Value) : Prop where
  DEEPEST : Cst mg "DEEPEST" (.int 40)
  DIGITS : Cst mg "DIGITS" (.str "0123456789")
  MOST_DIGITS : Cst mg "MOST_DIGITS" (.int 2000)
  ESCAPES : Tab K w mg "ESCAPES" t_ESCAPES
  WORDS : Tab K w mg "WORDS" t_WORDS
/-! _quoted -/
abbrev s__quoted : Stmt := top 10
theorem sc__quoted : FnScope ["value", "escaped"] ["value"] (defScope s__quoted) := ⟨rfl, rfl, rfl, by decide +kernel, rfl, by decide +kernel, by decide +kernel⟩
def g__quoted  : Ev → Option Out :=
  (sSeq (sSet 1 (cRepl "\n" "\\n" (cRepl "\"" "\\\"" (cRepl "\\" "\\\\" (cVar 0))))) (sRet (cOp dAdd (cOp dAdd (cPure (.str "\"")) (cVar 1)) (cPure (.str "\"")))))
def c__quoted : Cal := ⟨1, [], fnD 1 g__quoted⟩
theorem ok__quoted {P : Program} {w : World} {K : Fg} {mg : Str → Option Value} {base : Heap} (B : Bl mg) (C : Cs K w mg) (T : Top K mg "_quoted" s__quoted ["value"])  : Has P w K mg base 1 "_quoted" ["value"] c__quoted := by
  refine Has.mkT (k := 0) (g := g__quoted) (bor := []) (n := 1) T sc__quoted rfl (by decide +kernel) (by decide) fun f cdv A outer s H E hr => ?_
  exact (qss_cons (qs_set (i := 1) sc__quoted.nd rfl (.inl rfl) (qe_repl (qe_repl (qe_repl (QE.of (re_var 0)))))) (qss_one (QS.of (rs_ret (re_add (re_add re_str (re_var 1)) re_str)))))
/-! show_plain -/
abbrev s_show_plain : Stmt := top 9
theorem sc_show_plain : FnScope ["value", "member"] ["value"] (defScope s_show_plain) := ⟨rfl, rfl, rfl, by decide +kernel, rfl, by decide +kernel, by decide +kernel⟩
def g_show_plain (c_show_plain : Cal) : Ev → Option Out :=
  (sSeq (cIf (cT (cOp dIs (cVar 0) (cPure .none))) (sRet (cPure (.str "N"))) sSkip) (sSeq (cIf (cT (cOp dIs (cVar 0) (cPure (.bool true)))) (sRet (cPure (.str "T"))) sSkip) (sSeq (cIf (cT (cOp dIs (cVar 0) (cPure (.bool false)))) (sRet (cPure (.str "F"))) sSkip) (sSeq (cIf (cTr (cIsi "int" (cVar 0))) (sRet (cBlt bStrI (cACons (cVar 0) cANil))) sSkip) (sSeq (cIf (cTr (cIsi "str" (cVar 0))) (sRet (cCall c__quoted (gaD (cVar 0) gaNil))) sSkip) (sRet (cOp dAdd (cOp dAdd (cPure (.str "(")) (cSm hJoin (cPure (.str " ")) (cACons (cFrz (cComp [1] (cItems (cVar 0)) (gNm 1) cYes (cCall c_show_plain (gaD (cVar 1) gaNil)))) cANil))) (cPure (.str ")")))))))))
def c_show_plain : Nat → Cal
  | 0 => ⟨1, [], fun _ => none⟩
  | n + 1 => ⟨1, [], fnD 1 (g_show_plain (c_show_plain n))⟩
theorem ok_show_plain {P : Program} {w : World} {K : Fg} {mg : Str → Option Value} {base : Heap} (B : Bl mg) (C : Cs K w mg) (T_show_plain : Top K mg "show_plain" s_show_plain ["value"]) (h__quoted : Has P w K mg base 1 "_quoted" ["value"] c__quoted) : ∀ n : Nat, Has P w K mg base (1 + n) "show_plain" ["value"] (c_show_plain n)
  | 0 => Has.zero T_show_plain
  | n + 1 => by
    have ih := ok_show_plain (P := P) (w := w) (K := K) (mg := mg) (base := base) B C T_show_plain h__quoted n
    have h_show_plain := ih
    refine Has.mk (k := 1 + n) (g := g_show_plain (c_show_plain n)) (bor := []) (n := 1) T_show_plain sc_show_plain rfl fun f cdv A outer s H E hr => ?_
    exact (rss_cons (rs_if (rt_is (re_var 0) re_non) (rss_one (rs_ret re_str)) rss_nil) (rss_cons (rs_if (rt_is (re_var 0) re_bl) (rss_one (rs_ret re_str)) rss_nil) (rss_cons (rs_if (rt_is (re_var 0) re_bl) (rss_one (rs_ret re_str)) rss_nil) (rss_cons (rs_if (rt_tru (re_isi (T := "int") rfl B.x_isinstance rfl B.x_int (by decide +kernel) (re_var 0))) (rss_one (rs_ret (re_str1 rfl B.x_str (re_var 0)))) rss_nil) (rss_cons (rs_if (rt_tru (re_isi (T := "str") rfl B.x_isinstance rfl B.x_str (by decide +kernel) (re_var 0))) (rss_one (rs_ret (re_fn h__quoted (hr.mono (by omega)) rfl (rg_d (re_var 0) rg_nil)))) rss_nil) (rss_one (rs_ret (re_add (re_add re_str (re_join re_str (re_frz (rf_lc (own := [("member", 1)]) rfl sc_show_plain.nd (ri_seq (re_var 0)) (show blkC ["value", "member"] (defScope s_show_plain) _ [("member", 1)] = true by decide +kernel) (by decide) (fun _ _ _ _ _ => (rg_name (i := 1) sc_show_plain.nd rfl (.inl rfl))) (fun _ _ _ _ _ => rts_nil) (fun _ _ _ _ _ => (re_fn h_show_plain (hr.mono (by omega)) rfl (rg_d (re_var 1) rg_nil))))))) re_str))))))))
/-! _integer -/
abbrev s__integer : Stmt := top 14
theorem sc__integer : FnScope ["text", "place", "negative", "start", "tail", "digits", "number"] ["text", "place"] (defScope s__integer) := ⟨rfl, rfl, rfl, by decide +kernel, rfl, by decide +kernel, by decide +kernel⟩
def g__integer  : Ev → Option Out :=
  (sSeq (sSet 2 (cOp dEq (cSl (cVar 0) (cPart (cVar 1)) (cPart (cOp dAdd (cVar 1) (cPure (.int 1))))) (cPure (.str "-")))) (sSeq (sSet 3 (cIf (cTr (cVar 2)) (cOp dAdd (cVar 1) (cPure (.int 1))) (cVar 1))) (sSeq (sSet 4 (cSl (cVar 0) (cPart (cVar 3)) (cPart (cOp dAdd (cOp dAdd (cVar 3) (cPure (.int 2000))) (cPure (.int 1)))))) (sSeq (sSet 5 (cSl (cVar 4) cNoP (cPart (cOp dSubI (cBlt bLen (cACons (cVar 4) cANil)) (cBlt bLen (cACons (cSm hLstrip (cVar 4) (cACons (cPure (.str "0123456789")) cANil)) cANil)))))) (sSeq (cIf (cOr (cT (cOp dEq (cVar 5) (cPure (.str "")))) (cAnd (cTr (cVar 2)) (cT (cOp dEq (cOp dIx (cVar 5) (cPure (.int 0))) (cPure (.str "0")))))) sNever sSkip) (sSeq (cIf (cAnd (cT (cOp dEq (cOp dIx (cVar 5) (cPure (.int 0))) (cPure (.str "0")))) (cT (cOp dGt (cBlt bLen (cACons (cVar 5) cANil)) (cPure (.int 1))))) sNever sSkip) (sSeq (cIf (cT (cOp dGt (cBlt bLen (cACons (cVar 5) cANil)) (cPure (.int 2000)))) sNever sSkip) (sSeq (sSet 6 (cIf (cTr (cVar 2)) (cUn dNeg (cBlt (fun as => (bInt as).or (bIntS as)) (cACons (cVar 5) cANil))) (cBlt (fun as => (bInt as).or (bIntS as)) (cACons (cVar 5) cANil)))) (sRet (cTup (cACons (cVar 6) (cACons (cOp dAdd (cVar 3) (cBlt bLen (cACons (cVar 5) cANil))) cANil))))))))))))
def c__integer : Cal := ⟨2, [], fnD 5 g__integer⟩
theorem ok__integer {P : Program} {w : World} {K : Fg} {mg : Str → Option Value} {base : Heap} (B : Bl mg) (C : Cs K w mg) (T : Top K mg "_integer" s__integer ["text", "place"])  : Has P w K mg base 1 "_integer" ["text", "place"] c__integer := by
  refine Has.mk (k := 0) (g := g__integer) (bor := []) (n := 5) T sc__integer rfl fun f cdv A outer s H E hr => ?_
  exact (rss_cons (rs_set (i := 2) sc__integer.nd rfl (.inl rfl) (re_eq hr.units (re_slice (re_var 0) (rp_some (re_var 1)) (rp_some (re_add (re_var 1) re_int))) re_str)) (rss_cons (rs_set (i := 3) sc__integer.nd rfl (.inl rfl) (re_ifExp (rt_tru (re_var 2)) (re_add (re_var 1) re_int) (re_var 1))) (rss_cons (rs_set (i := 4) sc__integer.nd rfl (.inl rfl) (re_slice (re_var 0) (rp_some (re_var 3)) (rp_some (re_add (re_add (re_var 3) (re_cst rfl C.MOST_DIGITS)) re_int)))) (rss_cons (rs_set (i := 5) sc__integer.nd rfl (.inl rfl) (re_slice (re_var 4) rp_none (rp_some (re_sub (re_len rfl B.x_len (re_var 4)) (re_len rfl B.x_len (re_sm PySem.F.slot_str_lstrip PySem.F.type_str_lstrip mt_lstripChars sd_lstrip (re_var 4) (ra_cons (re_cst rfl C.DIGITS) ra_nil))))))) (rss_cons (rs_if (RW.rt (rw_or (rt_eq hr.units (re_var 5) re_str) (rw_or1 (RW.rt (rw_and (rt_tru (re_var 2)) (rw_and1 (rt_eq hr.units (re_ix (re_var 5) re_int) re_str))))))) (rss_one rs_never) rss_nil) (rss_cons (rs_if (RW.rt (rw_and (rt_eq hr.units (re_ix (re_var 5) re_int) re_str) (rw_and1 (rt_gt (re_len rfl B.x_len (re_var 5)) re_int)))) (rss_one rs_never) rss_nil) (rss_cons (rs_if (rt_gt (re_len rfl B.x_len (re_var 5)) (re_cst rfl C.MOST_DIGITS)) (rss_one rs_never) rss_nil) (rss_cons (rs_set (i := 6) sc__integer.nd rfl (.inl rfl) (re_ifExp (rt_tru (re_var 2)) (re_neg (re_intA rfl B.x_int (re_var 5))) (re_intA rfl B.x_int (re_var 5)))) (rss_one (rs_ret (re_tup (ra_cons (re_var 6) (ra_cons (re_add (re_var 3) (re_len rfl B.x_len (re_var 5))) ra_nil)))))))))))))
/-! _first_of -/
abbrev s__first_of : Stmt := top 16
theorem sc__first_of : FnScope ["text", "place", "stop", "sign", "found"] ["text", "place"] (defScope s__first_of) := ⟨rfl, rfl, rfl, by decide +kernel, rfl, by decide +kernel, by decide +kernel⟩
def g__first_of  : Ev → Option Out :=
  (sSeq (sSet 2 (cBlt bLen (cACons (cVar 0) cANil))) (sSeq (sFor (cItems (cTup (cACons (cPure (.str "\"")) (cACons (cPure (.str "\\")) (cACons (cPure (.str "\n")) cANil))))) (gNm 3) (sSeq (sSet 4 (cSm hFind4 (cVar 0) (cACons (cVar 3) (cACons (cVar 1) (cACons (cVar 2) cANil))))) (cIf (cT (cOp dGe (cVar 4) (cPure (.int 0)))) (sSet 2 (cVar 4)) sSkip))) (sRet (cVar 2))))
def c__first_of : Cal := ⟨2, [], fnD 3 g__first_of⟩
theorem ok__first_of {P : Program} {w : World} {K : Fg} {mg : Str → Option Value} {base : Heap} (B : Bl mg) (C : Cs K w mg) (T : Top K mg "_first_of" s__first_of ["text", "place"])  : Has P w K mg base 1 "_first_of" ["text", "place"] c__first_of := by
  refine Has.mk (k := 0) (g := g__first_of) (bor := []) (n := 3) T sc__first_of rfl fun f cdv A outer s H E hr => ?_
  exact (rss_cons (rs_set (i := 2) sc__first_of.nd rfl (.inl rfl) (re_len rfl B.x_len (re_var 0))) (rss_cons (rs_for PassesOwn.never rfl (ri_seq (re_tup (ra_cons re_str (ra_cons re_str (ra_cons re_str ra_nil))))) (rg_name (i := 3) sc__first_of.nd rfl (.inl rfl)) (rss_cons (rs_set (i := 4) sc__first_of.nd rfl (.inl rfl) (re_sm PySem.F.slot_str_find PySem.F.type_str_find mt_find4 sd_find4 (re_var 0) (ra_cons (re_var 3) (ra_cons (re_var 1) (ra_cons (re_var 2) ra_nil))))) (rss_one (rs_if (rt_ge (re_var 4) re_int) (rss_one (rs_set (i := 2) sc__first_of.nd rfl (.inl rfl) (re_var 4))) rss_nil)))) (rss_one (rs_ret (re_var 2)))))
/-! _unquoted -/
abbrev s__unquoted : Stmt := top 15
theorem sc__unquoted : FnScope ["text", "place", "stretches", "stop", "sign", "escape"] ["text", "place"] (defScope s__unquoted) := ⟨rfl, rfl, rfl, by decide +kernel, rfl, by decide +kernel, by decide +kernel⟩
def g__unquoted  : Ev → Option Out :=
  (sSeq (sOwn 2 (cLst cANil)) (sWhile (fun _ => big) (cTr (cPure (.bool true))) (sSeq (sSet 3 (cCall c__first_of (gaD (cVar 0) (gaD (cVar 1) gaNil)))) (sSeq (sDrop (cOwn 2 hAppend (cACons (cSl (cVar 0) (cPart (cVar 1)) (cPart (cVar 3))) cANil))) (sSeq (sSet 4 (cSl (cVar 0) (cPart (cVar 3)) (cPart (cOp dAdd (cVar 3) (cPure (.int 1)))))) (sSeq (cIf (cT (cOp dEq (cVar 4) (cPure (.str "\"")))) (sFrz 2 (sRet (cTup (cACons (cSm hJoin (cPure (.str "")) (cACons (cVar 2) cANil)) (cACons (cOp dAdd (cVar 3) (cPure (.int 1))) cANil))))) sSkip) (sSeq (cIf (cT (cOp dNe (cVar 4) (cPure (.str "\\")))) sNever sSkip) (sSeq (sSet 5 (cSl (cVar 0) (cPart (cOp dAdd (cVar 3) (cPure (.int 1)))) (cPart (cOp dAdd (cVar 3) (cPure (.int 2)))))) (sSeq (cIf (cT (cInTab true t_ESCAPES (cVar 5))) sNever sSkip) (sSeq (sDrop (cOwn 2 hAppend (cACons (cIxTab t_ESCAPES (cVar 5)) cANil))) (sSet 1 (cOp dAdd (cVar 3) (cPure (.int 2))))))))))))))
def c__unquoted : Cal := ⟨2, [], fnD 4 g__unquoted⟩
theorem ok__unquoted {P : Program} {w : World} {K : Fg} {mg : Str → Option Value} {base : Heap} (B : Bl mg) (C : Cs K w mg) (T : Top K mg "_unquoted" s__unquoted ["text", "place"]) (h__first_of : Has P w K mg base 1 "_first_of" ["text", "place"] c__first_of) : Has P w K mg base 2 "_unquoted" ["text", "place"] c__unquoted := by
  refine Has.mk (k := 1) (g := g__unquoted) (bor := []) (n := 4) T sc__unquoted rfl fun f cdv A outer s H E hr => ?_
  exact (rss_cons (rs_own (i := 2) sc__unquoted.nd rfl (.inl rfl) (rf_lst ra_nil) (by decide)) (rss_one (rs_while (fun _ => big) PassesOwn.never (rt_tru re_bl) (rss_cons (rs_set (i := 3) sc__unquoted.nd rfl (.inl rfl) (re_fn h__first_of (hr.mono (by decide)) rfl (rg_d (re_var 0) (rg_d (re_var 1) rg_nil)))) (rss_cons (rs_expr (re_append 2 (re_slice (re_var 0) (rp_some (re_var 1)) (rp_some (re_var 3))))) (rss_cons (rs_set (i := 4) sc__unquoted.nd rfl (.inl rfl) (re_slice (re_var 0) (rp_some (re_var 3)) (rp_some (re_add (re_var 3) re_int)))) (rss_cons (rs_if (rt_eq hr.units (re_var 4) re_str) (rss_freeze 2 (rss_one (rs_ret (re_tup (ra_cons (re_join re_str (re_var 2)) (ra_cons (re_add (re_var 3) re_int) ra_nil)))))) rss_nil) (rss_cons (rs_if (rt_ne hr.units (re_var 4) re_str) (rss_one rs_never) rss_nil) (rss_cons (rs_set (i := 5) sc__unquoted.nd rfl (.inl rfl) (re_slice (re_var 0) (rp_some (re_add (re_var 3) re_int)) (rp_some (re_add (re_var 3) re_int)))) (rss_cons (rs_if (rt_notInTab (re_var 5) rfl C.ESCAPES) (rss_one rs_never) rss_nil) (rss_cons (rs_expr (re_append 2 (re_ixTab (re_var 5) rfl C.ESCAPES))) (rss_one (rs_set (i := 1) sc__unquoted.nd rfl (.inl rfl) (re_add (re_var 3) re_int))))))))))))))
/-! _value -/
abbrev s__value : Stmt := top 12
theorem sc__value : FnScope ["text", "place", "depth", "sign"] ["text", "place", "depth"] (defScope s__value) := ⟨rfl, rfl, rfl, by decide +kernel, rfl, by decide +kernel, by decide +kernel⟩
def g__value (c__value : Cal) (c__members : Cal) : Ev → Option Out :=
  (sSeq (sSet 3 (cSl (cVar 0) (cPart (cVar 1)) (cPart (cOp dAdd (cVar 1) (cPure (.int 1)))))) (sSeq (cIf (cT (cInTab false t_WORDS (cVar 3))) (sRet (cTup (cACons (cIxTab t_WORDS (cVar 3)) (cACons (cOp dAdd (cVar 1) (cPure (.int 1))) cANil)))) sSkip) (sSeq (cIf (cT (cOp dEq (cVar 3) (cPure (.str "\"")))) (sRet (cCall c__unquoted (gaD (cVar 0) (gaD (cOp dAdd (cVar 1) (cPure (.int 1))) gaNil)))) sSkip) (sSeq (cIf (cAnd (cT (cOp dEq (cVar 3) (cPure (.str "(")))) (cT (cOp dLt (cVar 2) (cPure (.int 40))))) (sRet (cCall c__members (gaD (cVar 0) (gaD (cOp dAdd (cVar 1) (cPure (.int 1))) (gaD (cOp dAdd (cVar 2) (cPure (.int 1))) gaNil))))) sSkip) (sRet (cCall c__integer (gaD (cVar 0) (gaD (cVar 1) gaNil))))))))
/-! _members -/
abbrev s__members : Stmt := top 13
theorem sc__members : FnScope ["text", "place", "depth", "members", "member", "sign"] ["text", "place", "depth"] (defScope s__members) := ⟨rfl, rfl, rfl, by decide +kernel, rfl, by decide +kernel, by decide +kernel⟩
def g__members (c__value : Cal) (c__members : Cal) : Ev → Option Out :=
  (sSeq (cIf (cT (cOp dEq (cSl (cVar 0) (cPart (cVar 1)) (cPart (cOp dAdd (cVar 1) (cPure (.int 1))))) (cPure (.str ")")))) (sRet (cTup (cACons (cTup cANil) (cACons (cOp dAdd (cVar 1) (cPure (.int 1))) cANil)))) sSkip) (sSeq (sOwn 3 (cLst cANil)) (sWhile (fun _ => big) (cTr (cPure (.bool true))) (sSeq (sAsg (cCall c__value (gaD (cVar 0) (gaD (cVar 1) (gaD (cVar 2) gaNil)))) (gTp 2 (gsCons (gNm 4) (gsCons (gNm 1) gsNil)))) (sSeq (sDrop (cOwn 3 hAppend (cACons (cVar 4) cANil))) (sSeq (sSet 5 (cSl (cVar 0) (cPart (cVar 1)) (cPart (cOp dAdd (cVar 1) (cPure (.int 1)))))) (sSeq (cIf (cT (cOp dEq (cVar 5) (cPure (.str ")")))) (sFrz 3 (sRet (cTup (cACons (cBlt bTup (cACons (cVar 3) cANil)) (cACons (cOp dAdd (cVar 1) (cPure (.int 1))) cANil))))) sSkip) (sSeq (cIf (cT (cOp dNe (cVar 5) (cPure (.str " ")))) sNever sSkip) (sAug 1 (fun a b => (dAddI a b).or (dAddS a b)) (cPure (.int 1)))))))))))
mutual
def c__value : Nat → Cal
  | 0 => ⟨3, [], fun _ => none⟩
  | n + 1 => ⟨3, [], fnD 1 (g__value (c__value n) (c__members n))⟩
def c__members : Nat → Cal
  | 0 => ⟨3, [], fun _ => none⟩
  | n + 1 => ⟨3, [], fnD 3 (g__members (c__value n) (c__members n))⟩
end
theorem ok__value {P : Program} {w : World} {K : Fg} {mg : Str → Option Value} {base : Heap} (B : Bl mg) (C : Cs K w mg) (T__value : Top K mg "_value" s__value ["text", "place", "depth"]) (T__members : Top K mg "_members" s__members ["text", "place", "depth"]) (h__integer : Has P w K mg base 1 "_integer" ["text", "place"] c__integer) (h__unquoted : Has P w K mg base 2 "_unquoted" ["text", "place"] c__unquoted) : ∀ n : Nat, Has P w K mg base (2 + n) "_value" ["text", "place", "depth"] (c__value n) ∧ Has P w K mg base (2 + n) "_members" ["text", "place", "depth"] (c__members n)
  | 0 => ⟨Has.zero T__value, Has.zero T__members⟩
  | n + 1 => by
    have ih := ok__value (P := P) (w := w) (K := K) (mg := mg) (base := base) B C T__value T__members h__integer h__unquoted n
    obtain ⟨h__value, h__members⟩ := ih
    refine ⟨?_, ?_⟩
    · refine Has.mk (k := 2 + n) (g := g__value (c__value n) (c__members n)) (bor := []) (n := 1) T__value sc__value rfl fun f cdv A outer s H E hr => ?_
      exact (rss_cons (rs_set (i := 3) sc__value.nd rfl (.inl rfl) (re_slice (re_var 0) (rp_some (re_var 1)) (rp_some (re_add (re_var 1) re_int)))) (rss_cons (rs_if (rt_inTab (re_var 3) rfl C.WORDS) (rss_one (rs_ret (re_tup (ra_cons (re_ixTab (re_var 3) rfl C.WORDS) (ra_cons (re_add (re_var 1) re_int) ra_nil))))) rss_nil) (rss_cons (rs_if (rt_eq hr.units (re_var 3) re_str) (rss_one (rs_ret (re_fn h__unquoted (hr.mono (by omega)) rfl (rg_d (re_var 0) (rg_d (re_add (re_var 1) re_int) rg_nil))))) rss_nil) (rss_cons (rs_if (RW.rt (rw_and (rt_eq hr.units (re_var 3) re_str) (rw_and1 (rt_lt (re_var 2) (re_cst rfl C.DEEPEST))))) (rss_one (rs_ret (re_fn h__members (hr.mono (by omega)) rfl (rg_d (re_var 0) (rg_d (re_add (re_var 1) re_int) (rg_d (re_add (re_var 2) re_int) rg_nil)))))) rss_nil) (rss_one (rs_ret (re_fn h__integer (hr.mono (by omega)) rfl (rg_d (re_var 0) (rg_d (re_var 1) rg_nil)))))))))
    · refine Has.mk (k := 2 + n) (g := g__members (c__value n) (c__members n)) (bor := []) (n := 3) T__members sc__members rfl fun f cdv A outer s H E hr => ?_
      exact (rss_cons (rs_if (rt_eq hr.units (re_slice (re_var 0) (rp_some (re_var 1)) (rp_some (re_add (re_var 1) re_int))) re_str) (rss_one (rs_ret (re_tup (ra_cons (re_tup ra_nil) (ra_cons (re_add (re_var 1) re_int) ra_nil))))) rss_nil) (rss_cons (rs_own (i := 3) sc__members.nd rfl (.inl rfl) (rf_lst ra_nil) (by decide)) (rss_one (rs_while (fun _ => big) PassesOwn.never (rt_tru re_bl) (rss_cons (rs_asg (re_fn h__value (hr.mono (by omega)) rfl (rg_d (re_var 0) (rg_d (re_var 1) (rg_d (re_var 2) rg_nil)))) (rg_tup rfl (rgs_cons (rg_name (i := 4) sc__members.nd rfl (.inl rfl)) (rgs_cons (rg_name (i := 1) sc__members.nd rfl (.inl rfl)) rgs_nil)))) (rss_cons (rs_expr (re_append 3 (re_var 4))) (rss_cons (rs_set (i := 5) sc__members.nd rfl (.inl rfl) (re_slice (re_var 0) (rp_some (re_var 1)) (rp_some (re_add (re_var 1) re_int)))) (rss_cons (rs_if (rt_eq hr.units (re_var 5) re_str) (rss_freeze 3 (rss_one (rs_ret (re_tup (ra_cons (re_tuple1 rfl B.x_tuple (re_var 3)) (ra_cons (re_add (re_var 1) re_int) ra_nil)))))) rss_nil) (rss_cons (rs_if (rt_ne hr.units (re_var 5) re_str) (rss_one rs_never) rss_nil) (rss_one (rs_iadd (i := 1) sc__members.nd rfl (.inl rfl) re_int)))))))))))
/-! read_plain -/
abbrev s_read_plain : Stmt := top 11
theorem sc_read_plain : FnScope ["text", "value", "place"] ["text"] (defScope s_read_plain) := ⟨rfl, rfl, rfl, by decide +kernel, rfl, by decide +kernel, by decide +kernel⟩
def g_read_plain  : Ev → Option Out :=
  (sSeq (sAsg (cCall (c__value 90) (gaD (cVar 0) (gaD (cPure (.int 0)) (gaD (cPure (.int 0)) gaNil)))) (gTp 2 (gsCons (gNm 1) (gsCons (gNm 2) gsNil)))) (sSeq (cIf (cT (cOp dNe (cVar 2) (cBlt bLen (cACons (cVar 0) cANil)))) sNever sSkip) (sRet (cVar 1))))
def c_read_plain : Cal := ⟨1, [], fnD 2 g_read_plain⟩
theorem ok_read_plain {P : Program} {w : World} {K : Fg} {mg : Str → Option Value} {base : Heap} (B : Bl mg) (C : Cs K w mg) (T : Top K mg "read_plain" s_read_plain ["text"]) (h__value : Has P w K mg base 92 "_value" ["text", "place", "depth"] (c__value 90)) : Has P w K mg base 93 "read_plain" ["text"] c_read_plain := by
  refine Has.mk (k := 92) (g := g_read_plain) (bor := []) (n := 2) T sc_read_plain rfl fun f cdv A outer s H E hr => ?_
  exact (rss_cons (rs_asg (re_fn h__value (hr.mono (by decide)) rfl (rg_d (re_var 0) (rg_d re_int (rg_d re_int rg_nil)))) (rg_tup rfl (rgs_cons (rg_name (i := 1) sc_read_plain.nd rfl (.inl rfl)) (rgs_cons (rg_name (i := 2) sc_read_plain.nd rfl (.inl rfl)) rgs_nil)))) (rss_cons (rs_if (rt_ne hr.units (re_var 2) (re_len rfl B.x_len (re_var 0))) (rss_one rs_never) rss_nil) (rss_one (rs_ret (re_var 1)))))
/-! _law_cell -/
abbrev s__law_cell : Stmt := top 18
theorem sc__law_cell : FnScope ["script", "k"] ["script", "k"] (defScope s__law_cell) := ⟨rfl, rfl, rfl, by decide +kernel, rfl, by decide +kernel, by decide +kernel⟩
def g__law_cell  : Ev → Option Out :=
  (sSeq (cIf (cT (cOp dLt (cVar 1) (cBlt bLen (cACons (cVar 0) cANil)))) (sRet (cOp dIx (cVar 0) (cVar 1))) sSkip) (sRet (cPure (.int 0))))
def c__law_cell : Cal := ⟨2, [], fnD 0 g__law_cell⟩
theorem ok__law_cell {P : Program} {w : World} {K : Fg} {mg : Str → Option Value} {base : Heap} (B : Bl mg) (C : Cs K w mg) (T : Top K mg "_law_cell" s__law_cell ["script", "k"])  : Has P w K mg base 1 "_law_cell" ["script", "k"] c__law_cell := by
  refine Has.mk (k := 0) (g := g__law_cell) (bor := []) (n := 0) T sc__law_cell rfl fun f cdv A outer s H E hr => ?_
  exact (rss_cons (rs_if (rt_lt (re_var 1) (re_len rfl B.x_len (re_var 0))) (rss_one (rs_ret (re_ix (re_var 0) (re_var 1)))) rss_nil) (rss_one (rs_ret re_int)))
/-! _law_digits -/
abbrev s__law_digits : Stmt := top 19
theorem sc__law_digits : FnScope ["script", "first", "last", "digits", "k", "cell", "turn", "seed"] ["script", "first", "last"] (defScope s__law_digits) := ⟨rfl, rfl, rfl, by decide +kernel, rfl, by decide +kernel, by decide +kernel⟩
def g__law_digits  : Ev → Option Out :=
  (sSeq (sOwn 3 (cLst cANil)) (sSeq (sFor (cRng2 (cVar 1) (cVar 2)) (gNm 4) (sSeq (cIf (cT (cOp dGt (cPeek (cBlt bLen (cACons (cVar 3) cANil))) (cPure (.int 1500)))) sBreak sSkip) (sSeq (sSet 5 (cCall c__law_cell (gaD (cVar 0) (gaD (cVar 4) gaNil)))) (sSeq (cIf (cT (cOp dLt (cVar 5) (cPure (.int 0)))) (sSet 5 (cOp dSubI (cPure (.int 1)) (cOp dMulI (cPure (.int 2)) (cVar 5)))) sSkip) (cIf (cT (cOp dGe (cVar 5) (cOp dPowI (cPure (.int 10)) (cPure (.int 18))))) (sFor (cRng1 (cPure (.int 60))) (gNm 6) (cIf (cT (cOp dGt (cVar 5) (cPure (.int 0)))) (sSeq (sDrop (cOwn 3 hAppend (cACons (cOp dModI (cBlt (fun as => (bInt as).or (bIntS as)) (cACons (cVar 5) cANil)) (cPure (.int 1000))) cANil))) (sSet 5 (cOp dDivI (cVar 5) (cPure (.int 1000))))) sSkip)) (sSeq (sSet 7 (cOp dModI (cBlt (fun as => (bInt as).or (bIntS as)) (cACons (cOp dAdd (cOp dAdd (cOp dMulI (cVar 5) (cPure (.int 48271))) (cOp dMulI (cVar 4) (cPure (.int 69621)))) (cPure (.int 11))) cANil)) (cPure (.int 2147483647)))) (sFor (cRng1 (cPure (.int 12))) (gNm 6) (sSeq (sSet 7 (cOp dModI (cBlt (fun as => (bInt as).or (bIntS as)) (cACons (cOp dAdd (cOp dAdd (cOp dMulI (cVar 7) (cPure (.int 16807))) (cOp dMulI (cPure (.int 7)) (cVar 6))) (cPure (.int 1))) cANil)) (cPure (.int 2147483647)))) (sDrop (cOwn 3 hAppend (cACons (cOp dModI (cBlt (fun as => (bInt as).or (bIntS as)) (cACons (cOp dDivI (cVar 7) (cPure (.int 997))) cANil)) (cPure (.int 1000))) cANil))))))))))) (sFrz 3 (sRet (cVar 3)))))
def c__law_digits : Cal := ⟨3, [], fnD 5 g__law_digits⟩
theorem ok__law_digits {P : Program} {w : World} {K : Fg} {mg : Str → Option Value} {base : Heap} (B : Bl mg) (C : Cs K w mg) (T : Top K mg "_law_digits" s__law_digits ["script", "first", "last"]) (h__law_cell : Has P w K mg base 1 "_law_cell" ["script", "k"] c__law_cell) : Has P w K mg base 2 "_law_digits" ["script", "first", "last"] c__law_digits := by
  refine Has.mk (k := 1) (g := g__law_digits) (bor := []) (n := 5) T sc__law_digits rfl fun f cdv A outer s H E hr => ?_
  exact (rss_cons (rs_own (i := 3) sc__law_digits.nd rfl (.inl rfl) (rf_lst ra_nil) (by decide)) (rss_cons (rs_for PassesOwn.never rfl (ri_range2 rfl B.x_range (re_var 1) (re_var 2)) (rg_name (i := 4) sc__law_digits.nd rfl (.inl rfl)) (rss_cons (rs_if (rt_gt (re_peek (re_len rfl B.x_len (re_var 3))) re_int) (rss_one rs_break) rss_nil) (rss_cons (rs_set (i := 5) sc__law_digits.nd rfl (.inl rfl) (re_fn h__law_cell (hr.mono (by decide)) rfl (rg_d (re_var 0) (rg_d (re_var 4) rg_nil)))) (rss_cons (rs_if (rt_lt (re_var 5) re_int) (rss_one (rs_set (i := 5) sc__law_digits.nd rfl (.inl rfl) (re_sub re_int (re_mul re_int (re_var 5))))) rss_nil) (rss_one (rs_if (rt_ge (re_var 5) (re_pow re_int re_int)) (rss_one (rs_for PassesOwn.never rfl (ri_range1 rfl B.x_range re_int) (rg_name (i := 6) sc__law_digits.nd rfl (.inl rfl)) (rss_one (rs_if (rt_gt (re_var 5) re_int) (rss_cons (rs_expr (re_append 3 (re_mod (re_intA rfl B.x_int (re_var 5)) re_int))) (rss_one (rs_set (i := 5) sc__law_digits.nd rfl (.inl rfl) (re_div (re_var 5) re_int)))) rss_nil)))) (rss_cons (rs_set (i := 7) sc__law_digits.nd rfl (.inl rfl) (re_mod (re_intA rfl B.x_int (re_add (re_add (re_mul (re_var 5) re_int) (re_mul (re_var 4) re_int)) re_int)) re_int)) (rss_one (rs_for PassesOwn.never rfl (ri_range1 rfl B.x_range re_int) (rg_name (i := 6) sc__law_digits.nd rfl (.inl rfl)) (rss_cons (rs_set (i := 7) sc__law_digits.nd rfl (.inl rfl) (re_mod (re_intA rfl B.x_int (re_add (re_add (re_mul (re_var 7) re_int) (re_mul re_int (re_var 6))) re_int)) re_int)) (rss_one (rs_expr (re_append 3 (re_mod (re_intA rfl B.x_int (re_div (re_var 7) re_int)) re_int)))))))))))))) (rss_freeze 3 (rss_one (rs_ret (re_var 3))))))
/-! _law_draw -/
abbrev s__law_draw : Stmt := top 20
theorem sc__law_draw : FnScope ["box", "many", "at"] ["box", "many"] (defScope s__law_draw) := ⟨rfl, rfl, rfl, by decide +kernel, rfl, by decide +kernel, by decide +kernel⟩
def g__law_draw  : Ev → Option Out :=
  (sSeq (sSet 2 (cPeek (cOp dIx (cVar 0) (cPure (.int 1))))) (sSeq (sStore 0 (cOp dAdd (cVar 2) (cPure (.int 1))) (cPure (.int 1))) (sSeq (cIf (cT (cOp dLt (cVar 2) (cPeek (cBlt bLen (cACons (cOp dIx (cVar 0) (cPure (.int 0))) cANil))))) (sRet (cOp dModI (cBlt (fun as => (bInt as).or (bIntS as)) (cACons (cPeek (cOp dIx (cOp dIx (cVar 0) (cPure (.int 0))) (cVar 2))) cANil)) (cVar 1))) sSkip) (sRet (cOp dModI (cBlt (fun as => (bInt as).or (bIntS as)) (cACons (cOp dMulI (cVar 2) (cPure (.int 7))) cANil)) (cVar 1))))))
def c__law_draw : Cal := ⟨2, [0], fnD 1 g__law_draw⟩
theorem ok__law_draw {P : Program} {w : World} {K : Fg} {mg : Str → Option Value} {base : Heap} (B : Bl mg) (C : Cs K w mg) (T : Top K mg "_law_draw" s__law_draw ["box", "many"])  : Has P w K mg base 1 "_law_draw" ["box", "many"] c__law_draw := by
  refine Has.mk (k := 0) (g := g__law_draw) (bor := [0]) (n := 1) T sc__law_draw rfl fun f cdv A outer s H E hr => ?_
  exact (rss_cons (rs_set (i := 2) sc__law_draw.nd rfl (.inl rfl) (re_peek (re_ix (re_var 0) re_int))) (rss_cons (rs_store 0 (re_add (re_var 2) re_int) re_int) (rss_cons (rs_if (rt_lt (re_var 2) (re_peek (re_len rfl B.x_len (re_ix (re_var 0) re_int)))) (rss_one (rs_ret (re_mod (re_intA rfl B.x_int (re_peek (re_ix (re_ix (re_var 0) re_int) (re_var 2)))) (re_var 1)))) rss_nil) (rss_one (rs_ret (re_mod (re_intA rfl B.x_int (re_mul (re_var 2) re_int)) (re_var 1)))))))
/-! _law_same -/
abbrev s__law_same : Stmt := top 21
theorem sc__law_same : FnScope ["actual", "due", "k"] ["actual", "due"] (defScope s__law_same) := ⟨rfl, rfl, rfl, by decide +kernel, rfl, by decide +kernel, by decide +kernel⟩
def g__law_same (c__law_same : Cal) : Ev → Option Out :=
  (sSeq (cIf (cTr (cIsi "tuple" (cVar 1))) (sSeq (cIf (cOr (cNot (cTr (cIsi "tuple" (cVar 0)))) (cT (cOp dNe (cBlt bLen (cACons (cVar 0) cANil)) (cBlt bLen (cACons (cVar 1) cANil))))) (sRet (cPure (.bool false))) sSkip) (sSeq (sFor (cRng1 (cBlt bLen (cACons (cVar 1) cANil))) (gNm 2) (cIf (cNot (cTr (cCall c__law_same (gaD (cOp dIx (cVar 0) (cVar 2)) (gaD (cOp dIx (cVar 1) (cVar 2)) gaNil))))) (sRet (cPure (.bool false))) sSkip)) (sRet (cPure (.bool true))))) sSkip) (sSeq (cIf (cT (cOp dIs (cVar 1) (cPure .none))) (sRet (cOp dIs (cVar 0) (cPure .none))) sSkip) (sSeq (cIf (cT (cOp dIs (cVar 1) (cPure (.bool true)))) (sRet (cOp dIs (cVar 0) (cPure (.bool true)))) sSkip) (sSeq (cIf (cT (cOp dIs (cVar 1) (cPure (.bool false)))) (sRet (cOp dIs (cVar 0) (cPure (.bool false)))) sSkip) (sSeq (cIf (cTr (cIsi "int" (cVar 1))) (sRet (cBand (cIsi "int" (cVar 0)) (cBand (cNotE (cT (cIsi "bool" (cVar 0)))) (cOp dEq (cVar 0) (cVar 1))))) sSkip) (sRet (cBand (cIsi "str" (cVar 0)) (cOp dEq (cVar 0) (cVar 1)))))))))
def c__law_same : Nat → Cal
  | 0 => ⟨2, [], fun _ => none⟩
  | n + 1 => ⟨2, [], fnD 1 (g__law_same (c__law_same n))⟩
theorem ok__law_same {P : Program} {w : World} {K : Fg} {mg : Str → Option Value} {base : Heap} (B : Bl mg) (C : Cs K w mg) (T__law_same : Top K mg "_law_same" s__law_same ["actual", "due"])  : ∀ n : Nat, Has P w K mg base (0 + n) "_law_same" ["actual", "due"] (c__law_same n)
  | 0 => Has.zero T__law_same
  | n + 1 => by
    have ih := ok__law_same (P := P) (w := w) (K := K) (mg := mg) (base := base) B C T__law_same  n
    have h__law_same := ih
    refine Has.mk (k := 0 + n) (g := g__law_same (c__law_same n)) (bor := []) (n := 1) T__law_same sc__law_same rfl fun f cdv A outer s H E hr => ?_
    exact (rss_cons (rs_if (rt_tru (re_isi (T := "tuple") rfl B.x_isinstance rfl B.x_tuple (by decide +kernel) (re_var 1))) (rss_cons (rs_if (RW.rt (rw_or (rt_not (rt_tru (re_isi (T := "tuple") rfl B.x_isinstance rfl B.x_tuple (by decide +kernel) (re_var 0)))) (rw_or1 (rt_ne hr.units (re_len rfl B.x_len (re_var 0)) (re_len rfl B.x_len (re_var 1)))))) (rss_one (rs_ret re_bl)) rss_nil) (rss_cons (rs_for PassesOwn.never rfl (ri_range1 rfl B.x_range (re_len rfl B.x_len (re_var 1))) (rg_name (i := 2) sc__law_same.nd rfl (.inl rfl)) (rss_one (rs_if (rt_not (rt_tru (re_fn h__law_same (hr.mono (by omega)) rfl (rg_d (re_ix (re_var 0) (re_var 2)) (rg_d (re_ix (re_var 1) (re_var 2)) rg_nil))))) (rss_one (rs_ret re_bl)) rss_nil))) (rss_one (rs_ret re_bl)))) rss_nil) (rss_cons (rs_if (rt_is (re_var 1) re_non) (rss_one (rs_ret (re_is (re_var 0) re_non))) rss_nil) (rss_cons (rs_if (rt_is (re_var 1) re_bl) (rss_one (rs_ret (re_is (re_var 0) re_bl))) rss_nil) (rss_cons (rs_if (rt_is (re_var 1) re_bl) (rss_one (rs_ret (re_is (re_var 0) re_bl))) rss_nil) (rss_cons (rs_if (rt_tru (re_isi (T := "int") rfl B.x_isinstance rfl B.x_int (by decide +kernel) (re_var 1))) (rss_one (rs_ret (rb_and (re_isi (T := "int") rfl B.x_isinstance rfl B.x_int (by decide +kernel) (re_var 0)) (rb_and (re_notE (re_isi (T := "bool") rfl B.x_isinstance rfl B.x_bool (by decide +kernel) (re_var 0))) (rb_one (re_eq hr.units (re_var 0) (re_var 1))))))) rss_nil) (rss_one (rs_ret (rb_and (re_isi (T := "str") rfl B.x_isinstance rfl B.x_str (by decide +kernel) (re_var 0)) (rb_one (re_eq hr.units (re_var 0) (re_var 1)))))))))))
/-! _law_plain -/
abbrev s__law_plain : Stmt := top 22
theorem sc__law_plain : FnScope ["value", "one"] ["value"] (defScope s__law_plain) := ⟨rfl, rfl, rfl, by decide +kernel, rfl, by decide +kernel, by decide +kernel⟩
def g__law_plain (c__law_plain : Cal) : Ev → Option Out :=
  (sSeq (cIf (cT (cOp dIs (cVar 0) (cPure .none))) (sRet (cPure (.str "N"))) sSkip) (sSeq (cIf (cT (cOp dIs (cVar 0) (cPure (.bool true)))) (sRet (cPure (.str "T"))) sSkip) (sSeq (cIf (cT (cOp dIs (cVar 0) (cPure (.bool false)))) (sRet (cPure (.str "F"))) sSkip) (sSeq (cIf (cTr (cIsi "int" (cVar 0))) (sRet (cBlt bStrI (cACons (cVar 0) cANil))) sSkip) (sSeq (cIf (cTr (cIsi "tuple" (cVar 0))) (sRet (cOp dAdd (cOp dAdd (cPure (.str "(")) (cSm hJoin (cPure (.str " ")) (cACons (cFrz (cComp [1] (cItems (cVar 0)) (gNm 1) cYes (cCall c__law_plain (gaD (cVar 1) gaNil)))) cANil))) (cPure (.str ")")))) sSkip) (sRet (cOp dAdd (cOp dAdd (cPure (.str "\"")) (cRepl "\n" "\\n" (cRepl "\"" "\\\"" (cRepl "\\" "\\\\" (cVar 0))))) (cPure (.str "\"")))))))))
def c__law_plain : Nat → Cal
  | 0 => ⟨1, [], fun _ => none⟩
  | n + 1 => ⟨1, [], fnD 1 (g__law_plain (c__law_plain n))⟩
theorem ok__law_plain {P : Program} {w : World} {K : Fg} {mg : Str → Option Value} {base : Heap} (B : Bl mg) (C : Cs K w mg) (T__law_plain : Top K mg "_law_plain" s__law_plain ["value"])  : ∀ n : Nat, Has P w K mg base (0 + n) "_law_plain" ["value"] (c__law_plain n)
  | 0 => Has.zero T__law_plain
  | n + 1 => by
    have ih := ok__law_plain (P := P) (w := w) (K := K) (mg := mg) (base := base) B C T__law_plain  n
    have h__law_plain := ih
    refine Has.mk (k := 0 + n) (g := g__law_plain (c__law_plain n)) (bor := []) (n := 1) T__law_plain sc__law_plain rfl fun f cdv A outer s H E hr => ?_
    exact (rss_cons (rs_if (rt_is (re_var 0) re_non) (rss_one (rs_ret re_str)) rss_nil) (rss_cons (rs_if (rt_is (re_var 0) re_bl) (rss_one (rs_ret re_str)) rss_nil) (rss_cons (rs_if (rt_is (re_var 0) re_bl) (rss_one (rs_ret re_str)) rss_nil) (rss_cons (rs_if (rt_tru (re_isi (T := "int") rfl B.x_isinstance rfl B.x_int (by decide +kernel) (re_var 0))) (rss_one (rs_ret (re_str1 rfl B.x_str (re_var 0)))) rss_nil) (rss_cons (rs_if (rt_tru (re_isi (T := "tuple") rfl B.x_isinstance rfl B.x_tuple (by decide +kernel) (re_var 0))) (rss_one (rs_ret (re_add (re_add re_str (re_join re_str (re_frz (rf_lc (own := [("one", 1)]) rfl sc__law_plain.nd (ri_seq (re_var 0)) (show blkC ["value", "one"] (defScope s__law_plain) _ [("one", 1)] = true by decide +kernel) (by decide) (fun _ _ _ _ _ => (rg_name (i := 1) sc__law_plain.nd rfl (.inl rfl))) (fun _ _ _ _ _ => rts_nil) (fun _ _ _ _ _ => (re_fn h__law_plain (hr.mono (by omega)) rfl (rg_d (re_var 1) rg_nil))))))) re_str))) rss_nil) (rss_one (rs_ret (re_add (re_tok (qe_repl (qe_repl (qe_repl (QE.of (re_var 0)))))) re_str))))))))
/-! _law_value -/
abbrev s__law_value : Stmt := top 23
theorem sc__law_value : FnScope ["box", "deep", "kind", "number", "signs", "k"] ["box", "deep"] (defScope s__law_value) := ⟨rfl, rfl, rfl, by decide +kernel, rfl, by decide +kernel, by decide +kernel⟩
def g__law_value (c__law_value : Cal) : Ev → Option Out :=
  (sSeq (sSet 2 (cCall c__law_draw (gaS 0 (gaD (cPure (.int 9)) gaNil)))) (sSeq (cIf (cAnd (cT (cOp dLt (cVar 2) (cPure (.int 3)))) (cT (cOp dGt (cVar 1) (cPure (.int 0))))) (sRet (cBlt bTup (cACons (cFrz (cComp [5] (cRng1 (cCall c__law_draw (gaS 0 (gaD (cPure (.int 4)) gaNil)))) (gNm 5) cYes (cCall c__law_value (gaS 0 (gaD (cOp dSubI (cVar 1) (cPure (.int 1))) gaNil))))) cANil))) sSkip) (sSeq (cIf (cT (cOp dEq (cVar 2) (cPure (.int 3)))) (sRet (cOp dIx (cFrz (cLst (cACons (cPure .none) (cACons (cPure (.bool true)) (cACons (cPure (.bool false)) cANil))))) (cCall c__law_draw (gaS 0 (gaD (cPure (.int 3)) gaNil))))) sSkip) (sSeq (cIf (cT (cOp dEq (cVar 2) (cPure (.int 4)))) (sSeq (sSet 3 (cOp dSubI (cOp dAdd (cOp dMulI (cCall c__law_draw (gaS 0 (gaD (cPure (.int 900)) gaNil))) (cOp dPowI (cPure (.int 10)) (cPure (.int 16)))) (cCall c__law_draw (gaS 0 (gaD (cPure (.int 900)) gaNil)))) (cPure (.int 450)))) (sRet (cOp dIx (cFrz (cLst (cACons (cVar 3) (cACons (cOp dSubI (cPure (.int 0)) (cVar 3)) (cACons (cOp dAdd (cOp dPowI (cPure (.int 10)) (cPure (.int 19))) (cVar 3)) (cACons (cPure (.int 0)) cANil)))))) (cCall c__law_draw (gaS 0 (gaD (cPure (.int 4)) gaNil)))))) sSkip) (sSeq (cIf (cT (cOp dEq (cVar 2) (cPure (.int 5)))) (sRet (cOp dSubI (cCall c__law_draw (gaS 0 (gaD (cPure (.int 30)) gaNil))) (cPure (.int 15)))) sSkip) (sSeq (sSet 4 (cPure (.str " !\"#$&'()*+,-./0189:;<=>?@AZ[\\]^_`az{|}~\nnTFN"))) (sRet (cSm hJoin (cPure (.str "")) (cACons (cFrz (cComp [5] (cRng1 (cCall c__law_draw (gaS 0 (gaD (cPure (.int 9)) gaNil)))) (gNm 5) cYes (cOp dIx (cVar 4) (cOp dModI (cBlt (fun as => (bInt as).or (bIntS as)) (cACons (cCall c__law_draw (gaS 0 (gaD (cPure (.int 900)) gaNil))) cANil)) (cBlt bLen (cACons (cVar 4) cANil)))))) cANil)))))))))
def c__law_value : Nat → Cal
  | 0 => ⟨2, [0], fun _ => none⟩
  | n + 1 => ⟨2, [0], fnD 4 (g__law_value (c__law_value n))⟩
theorem ok__law_value {P : Program} {w : World} {K : Fg} {mg : Str → Option Value} {base : Heap} (B : Bl mg) (C : Cs K w mg) (T__law_value : Top K mg "_law_value" s__law_value ["box", "deep"]) (h__law_draw : Has P w K mg base 1 "_law_draw" ["box", "many"] c__law_draw) : ∀ n : Nat, Has P w K mg base (1 + n) "_law_value" ["box", "deep"] (c__law_value n)
  | 0 => Has.zero T__law_value
  | n + 1 => by
    have ih := ok__law_value (P := P) (w := w) (K := K) (mg := mg) (base := base) B C T__law_value h__law_draw n
    have h__law_value := ih
    refine Has.mk (k := 1 + n) (g := g__law_value (c__law_value n)) (bor := [0]) (n := 4) T__law_value sc__law_value rfl fun f cdv A outer s H E hr => ?_
    exact (rss_cons (rs_set (i := 2) sc__law_value.nd rfl (.inl rfl) (re_fn h__law_draw (hr.mono (by omega)) rfl (rg_s 0 (rg_d re_int rg_nil)))) (rss_cons (rs_if (RW.rt (rw_and (rt_lt (re_var 2) re_int) (rw_and1 (rt_gt (re_var 1) re_int)))) (rss_one (rs_ret (re_tuple1 rfl B.x_tuple (re_frz (rf_lc (own := [("k", 5)]) rfl sc__law_value.nd (ri_range1 rfl B.x_range (re_fn h__law_draw (hr.mono (by omega)) rfl (rg_s 0 (rg_d re_int rg_nil)))) (show blkC ["box", "deep", "kind", "number", "signs", "k"] (defScope s__law_value) _ [("k", 5)] = true by decide +kernel) (by decide) (fun _ _ _ _ _ => (rg_name (i := 5) sc__law_value.nd rfl (.inl rfl))) (fun _ _ _ _ _ => rts_nil) (fun _ _ _ _ _ => (re_fn h__law_value (hr.mono (by omega)) rfl (rg_s 0 (rg_d (re_sub (re_var 1) re_int) rg_nil))))))))) rss_nil) (rss_cons (rs_if (rt_eq hr.units (re_var 2) re_int) (rss_one (rs_ret (re_ix (re_frz (rf_lst (ra_cons re_non (ra_cons re_bl (ra_cons re_bl ra_nil))))) (re_fn h__law_draw (hr.mono (by omega)) rfl (rg_s 0 (rg_d re_int rg_nil)))))) rss_nil) (rss_cons (rs_if (rt_eq hr.units (re_var 2) re_int) (rss_cons (rs_set (i := 3) sc__law_value.nd rfl (.inl rfl) (re_sub (re_add (re_mul (re_fn h__law_draw (hr.mono (by omega)) rfl (rg_s 0 (rg_d re_int rg_nil))) (re_pow re_int re_int)) (re_fn h__law_draw (hr.mono (by omega)) rfl (rg_s 0 (rg_d re_int rg_nil)))) re_int)) (rss_one (rs_ret (re_ix (re_frz (rf_lst (ra_cons (re_var 3) (ra_cons (re_sub re_int (re_var 3)) (ra_cons (re_add (re_pow re_int re_int) (re_var 3)) (ra_cons re_int ra_nil)))))) (re_fn h__law_draw (hr.mono (by omega)) rfl (rg_s 0 (rg_d re_int rg_nil))))))) rss_nil) (rss_cons (rs_if (rt_eq hr.units (re_var 2) re_int) (rss_one (rs_ret (re_sub (re_fn h__law_draw (hr.mono (by omega)) rfl (rg_s 0 (rg_d re_int rg_nil))) re_int))) rss_nil) (rss_cons (rs_set (i := 4) sc__law_value.nd rfl (.inr rfl) re_str) (rss_one (rs_ret (re_join re_str (re_frz (rf_lc (own := [("k", 5)]) rfl sc__law_value.nd (ri_range1 rfl B.x_range (re_fn h__law_draw (hr.mono (by omega)) rfl (rg_s 0 (rg_d re_int rg_nil)))) (show blkC ["box", "deep", "kind", "number", "signs", "k"] (defScope s__law_value) _ [("k", 5)] = true by decide +kernel) (by decide) (fun _ _ _ _ _ => (rg_name (i := 5) sc__law_value.nd rfl (.inl rfl))) (fun _ _ _ _ _ => rts_nil) (fun _ _ _ _ _ => (re_ix (re_var 4) (re_mod (re_intA rfl B.x_int (re_fn h__law_draw (hr.mono (by omega)) rfl (rg_s 0 (rg_d re_int rg_nil)))) (re_len rfl B.x_len (re_var 4))))))))))))))))
/-! law -/
abbrev s_law : Stmt := top 24
theorem sc_law : FnScope ["script", "box", "turn", "value", "k", "text"] ["script"] (defScope s_law) := ⟨rfl, rfl, rfl, by decide +kernel, rfl, by decide +kernel, by decide +kernel⟩
def g_law  : Ev → Option Out :=
  (sSeq (sOwn 1 (cLst (cACons (cCall c__law_digits (gaD (cVar 0) (gaD (cPure (.int 0)) (gaD (cPure (.int 63)) gaNil)))) (cACons (cPure (.int 0)) cANil)))) (sSeq (sFor (cRng1 (cPure (.int 6))) (gNm 2) (sSeq (sSet 3 (cCall (c__law_value 60) (gaS 1 (gaD (cPure (.int 4)) gaNil)))) (sSeq (sFor (cRng1 (cOp dIx (cFrz (cLst (cACons (cPure (.int 0)) (cACons (cPure (.int 0)) (cACons (cPure (.int 0)) (cACons (cPure (.int 36)) cANil)))))) (cCall c__law_draw (gaS 1 (gaD (cPure (.int 4)) gaNil))))) (gNm 4) (sSet 3 (cTup (cACons (cVar 3) cANil)))) (sSeq (sSet 5 (cCall (c__law_plain 60) (gaD (cVar 3) gaNil))) (cIf (cOr (cNot (cTr (cCall (c__law_same 60) (gaD (cCall (c_show_plain 60) (gaD (cVar 3) gaNil)) (gaD (cVar 5) gaNil))))) (cNot (cTr (cCall (c__law_same 60) (gaD (cCall c_read_plain (gaD (cVar 5) gaNil)) (gaD (cVar 3) gaNil)))))) (sRet (cPure (.bool false))) sSkip))))) (sRet (cPure (.bool true)))))
def c_law : Cal := ⟨1, [], fnD 5 g_law⟩
theorem ok_law {P : Program} {w : World} {K : Fg} {mg : Str → Option Value} {base : Heap} (B : Bl mg) (C : Cs K w mg) (T : Top K mg "law" s_law ["script"]) (h__law_digits : Has P w K mg base 2 "_law_digits" ["script", "first", "last"] c__law_digits) (h__law_value : Has P w K mg base 61 "_law_value" ["box", "deep"] (c__law_value 60)) (h__law_plain : Has P w K mg base 60 "_law_plain" ["value"] (c__law_plain 60)) (h__law_draw : Has P w K mg base 1 "_law_draw" ["box", "many"] c__law_draw) (h__law_same : Has P w K mg base 60 "_law_same" ["actual", "due"] (c__law_same 60)) (h_show_plain : Has P w K mg base 61 "show_plain" ["value"] (c_show_plain 60)) (h_read_plain : Has P w K mg base 93 "read_plain" ["text"] c_read_plain) : Has P w K mg base 94 "law" ["script"] c_law := by
  refine Has.mk (k := 93) (g := g_law) (bor := []) (n := 5) T sc_law rfl fun f cdv A outer s H E hr => ?_
  exact (rss_cons (rs_own (i := 1) sc_law.nd rfl (.inl rfl) (rf_lst (ra_cons (re_fn h__law_digits (hr.mono (by decide)) rfl (rg_d (re_var 0) (rg_d re_int (rg_d re_int rg_nil)))) (ra_cons re_int ra_nil))) (by decide)) (rss_cons (rs_for PassesOwn.never rfl (ri_range1 rfl B.x_range re_int) (rg_name (i := 2) sc_law.nd rfl (.inl rfl)) (rss_cons (rs_set (i := 3) sc_law.nd rfl (.inl rfl) (re_fn h__law_value (hr.mono (by decide)) rfl (rg_s 1 (rg_d re_int rg_nil)))) (rss_cons (rs_for PassesOwn.never rfl (ri_range1 rfl B.x_range (re_ix (re_frz (rf_lst (ra_cons re_int (ra_cons re_int (ra_cons re_int (ra_cons re_int ra_nil)))))) (re_fn h__law_draw (hr.mono (by decide)) rfl (rg_s 1 (rg_d re_int rg_nil))))) (rg_name (i := 4) sc_law.nd rfl (.inl rfl)) (rss_one (rs_set (i := 3) sc_law.nd rfl (.inl rfl) (re_tup (ra_cons (re_var 3) ra_nil))))) (rss_cons (rs_set (i := 5) sc_law.nd rfl (.inl rfl) (re_fn h__law_plain (hr.mono (by decide)) rfl (rg_d (re_var 3) rg_nil))) (rss_one (rs_if (RW.rt (rw_or (rt_not (rt_tru (re_fn h__law_same (hr.mono (by decide)) rfl (rg_d (re_fn h_show_plain (hr.mono (by decide)) rfl (rg_d (re_var 3) rg_nil)) (rg_d (re_var 5) rg_nil))))) (rw_or1 (rt_not (rt_tru (re_fn h__law_same (hr.mono (by decide)) rfl (rg_d (re_fn h_read_plain (hr.mono (by decide)) rfl (rg_d (re_var 5) rg_nil)) (rg_d (re_var 3) rg_nil)))))))) (rss_one (rs_ret re_bl)) rss_nil)))))) (rss_one (rs_ret re_bl))))
theorem ok_lawF {P : Program} {w : World} {K : Fg} {mg : Str → Option Value} {base : Heap} {fa : Addr} {fd : FuncData} (B : Bl mg) (C : Cs K w mg) (F : Fun K "law" "law" s_law fa fd) (h__law_digits : Has P w K mg base 2 "_law_digits" ["script", "first", "last"] c__law_digits) (h__law_value : Has P w K mg base 61 "_law_value" ["box", "deep"] (c__law_value 60)) (h__law_plain : Has P w K mg base 60 "_law_plain" ["value"] (c__law_plain 60)) (h__law_draw : Has P w K mg base 1 "_law_draw" ["box", "many"] c__law_draw) (h__law_same : Has P w K mg base 60 "_law_same" ["actual", "due"] (c__law_same 60)) (h_show_plain : Has P w K mg base 61 "show_plain" ["value"] (c_show_plain 60)) (h_read_plain : Has P w K mg base 93 "read_plain" ["text"] c_read_plain) : FnOk P w K mg base CX0 94 fa fd ["script"] (spC K c_law) := by
  refine fn_ok (k := 93) (g := g_law) (bor := []) (n := 5) F sc_law rfl fun cdv A outer s H E hr => ?_
  exact (rss_cons (rs_own (i := 1) sc_law.nd rfl (.inl rfl) (rf_lst (ra_cons (re_fn h__law_digits (hr.mono (by decide)) rfl (rg_d (re_var 0) (rg_d re_int (rg_d re_int rg_nil)))) (ra_cons re_int ra_nil))) (by decide)) (rss_cons (rs_for PassesOwn.never rfl (ri_range1 rfl B.x_range re_int) (rg_name (i := 2) sc_law.nd rfl (.inl rfl)) (rss_cons (rs_set (i := 3) sc_law.nd rfl (.inl rfl) (re_fn h__law_value (hr.mono (by decide)) rfl (rg_s 1 (rg_d re_int rg_nil)))) (rss_cons (rs_for PassesOwn.never rfl (ri_range1 rfl B.x_range (re_ix (re_frz (rf_lst (ra_cons re_int (ra_cons re_int (ra_cons re_int (ra_cons re_int ra_nil)))))) (re_fn h__law_draw (hr.mono (by decide)) rfl (rg_s 1 (rg_d re_int rg_nil))))) (rg_name (i := 4) sc_law.nd rfl (.inl rfl)) (rss_one (rs_set (i := 3) sc_law.nd rfl (.inl rfl) (re_tup (ra_cons (re_var 3) ra_nil))))) (rss_cons (rs_set (i := 5) sc_law.nd rfl (.inl rfl) (re_fn h__law_plain (hr.mono (by decide)) rfl (rg_d (re_var 3) rg_nil))) (rss_one (rs_if (RW.rt (rw_or (rt_not (rt_tru (re_fn h__law_same (hr.mono (by decide)) rfl (rg_d (re_fn h_show_plain (hr.mono (by decide)) rfl (rg_d (re_var 3) rg_nil)) (rg_d (re_var 5) rg_nil))))) (rw_or1 (rt_not (rt_tru (re_fn h__law_same (hr.mono (by decide)) rfl (rg_d (re_fn h_read_plain (hr.mono (by decide)) rfl (rg_d (re_var 5) rg_nil)) (rg_d (re_var 3) rg_nil)))))))) (rss_one (rs_ret re_bl)) rss_nil)))))) (rss_one (rs_ret re_bl))))
end Law
set_option maxHeartbeats 4000000
namespace Law
open PySem PySem.Spec L2 Pv
theorem ob_some {α β : Type} (a : α) (f : α → Option β) : (some a).bind f = f a := rfl
theorem ixN_nat {n k : Nat} (h : k < n) : ixN n (k : Int) = some k := by
  unfold ixN
  rw [if_pos (by omega)]
  simp [h]
theorem atI_nat {α : Type} (xs : List α) (k : Nat) : atI xs (k : Int) = xs[k]? := by
  unfold atI
  by_cases h : k < xs.length
  · rw [ixN_nat h]; rfl
  · unfold ixN
    rw [if_pos (by omega), List.getElem?_eq_none (by omega)]
    simp; omega
/-- the draw, as a plain function -/
def drw (ds : List Int) (at' : Nat) (many : Int) : Int := if at' < ds.length then ds.getD at' 0 % many else ((at' : Int) * 7) % many
def bx (ds : List Int) (k : Nat) : AV := .own (.lst [.list (ds.map PyData.int), .int k])
theorem F_draw (ds : List Int) (k : Nat) (many : Int) (hm : 0 < many) : c__law_draw.F [bx ds k, .im (.int many)] = some (.int (drw ds k many), [bx ds (k + 1), .im (.int many)]) := by
  have i0 : ∀ (a b : D), atI [a, b] 0 = some a := fun _ _ => rfl
  have i1 : ∀ (a b : D), atI [a, b] 1 = some b := fun _ _ => rfl
  have j1 : ixN 2 1 = some 1 := rfl
  have m7 : mulOk (k : Int) 7 = true := by unfold mulOk; simp
  unfold c__law_draw fnD g__law_draw bx drw
  by_cases hk : k < ds.length
  · simp [cRun, sSeq, sSet, sRet, sSkip, sDrop, sAsg, sStore, sOwn, sFrz, frzA, sBreak, sCont, cIf, cT, cTr, cVar, cPure, cOp, cUn, cAnd, cOr, cNot, cNotE, cBand, cBor, cACons, cANil, cBlt, cTup, cLst, cFrz, cPeek, cPeekT, cSl, cPart, cNoP, cSm, outs, asBool, asInt, asStr, truD, thaw, ob_some, atom, cOwn, hAppend, gNm, cYes, dIx, dIxL, dIxT, dIxS, dAdd, dAddI, dModI, dCmpI, bLen, bInt, i0, i1, j1, atI_nat, hk, hm]
  · simp [cRun, sSeq, sSet, sRet, sSkip, sDrop, sAsg, sStore, sOwn, sFrz, frzA, sBreak, sCont, cIf, cT, cTr, cVar, cPure, cOp, cUn, cAnd, cOr, cNot, cNotE, cBand, cBor, cACons, cANil, cBlt, cTup, cLst, cFrz, cPeek, cPeekT, cSl, cPart, cNoP, cSm, outs, asBool, asInt, asStr, truD, thaw, ob_some, atom, cOwn, hAppend, gNm, cYes, dIx, dIxL, dIxT, dIxS, dAdd, dAddI, dModI, dMulI, dCmpI, bLen, bInt, i0, i1, j1, atI_nat, hk, hm, m7]
end Law
set_option maxHeartbeats 4000000
namespace Law
open PySem PySem.Spec L2 Pv
def esc1 (c : Nat) : List Nat := if c = 92 then [92, 92] else if c = 34 then [92, 34] else if c = 10 then [92, 110] else [c]
def esc (l : List Nat) : List Nat := l.flatMap esc1
def shw : Nat → D → List Nat
  | 0, _ => []
  | _ + 1, .none => [78]
  | _ + 1, .bool b => [if b then 84 else 70]
  | _ + 1, .int i => intL i
  | _ + 1, .str x => 34 :: (esc (sg x) ++ [34])
  | n + 1, .tuple ds => 40 :: (TL.joinL [32] (ds.map (shw n)) ++ [41])
  | _ + 1, _ => []
def Pl : Nat → D → Prop
  | 0, _ => False
  | _ + 1, .none => True
  | _ + 1, .bool _ => True
  | _ + 1, .int i => i.natAbs < 10 ^ 20
  | _ + 1, .str x => ∀ c ∈ sg x, c < 128
  | n + 1, .tuple ds => 0 < n ∧ ∀ d ∈ ds, Pl n d
  | _ + 1, _ => False
theorem big_line {n : Nat} (h : n ≤ 1000000) : n ≤ sizeLine := Nat.le_trans h (by decide)
/-! ### escaping -/
theorem fm_len {f : Nat → List Nat} {k : Nat} (h : ∀ c, (f c).length ≤ k) : ∀ l : List Nat, (l.flatMap f).length ≤ k * l.length
  | [] => by simp
  | c :: r => by
    have h1 := fm_len h r
    have h2 := h c
    rw [List.flatMap_cons, List.length_append, List.length_cons, Nat.mul_succ]
    omega
def r1 (a : Nat) (z : List Nat) (l : List Nat) : List Nat := l.flatMap fun d => if d = a then z else [d]
theorem r1_len (a : Nat) (b c : Nat) (l : List Nat) : (r1 a [b, c] l).length ≤ 2 * l.length := fm_len (fun d => by split <;> simp) l
theorem esc_r1 : ∀ l : List Nat, r1 10 [92, 110] (r1 34 [92, 34] (r1 92 [92, 92] l)) = esc l
  | [] => rfl
  | c :: r => by
    have ih := esc_r1 r
    unfold r1 esc at ih ⊢
    simp only [List.flatMap_cons, List.flatMap_append, ih]
    congr 1
    unfold esc1
    by_cases h1 : c = 92
    · subst h1; rfl
    · by_cases h2 : c = 34
      · subst h2; rfl
      · by_cases h3 : c = 10
        · subst h3; rfl
        · simp [h1, h2, h3]
theorem cRepl_mk {y z : Str} {c : Nat} {zl l : List Nat} {f : Ev → Option (D × Ev)} {α α' : Ev} (hf : f α = some (.str (mk l), α')) (hy : y = mk [c]) (hz : z = mk zl) (hb : l.length + (l.length + 1) * zl.length ≤ 16777216) :
    cRepl y z f α = some (.str (mk (r1 c zl l)), α') := by
  unfold cRepl
  rw [hf]
  show (if (mk l).length + ((mk l).length + 1) * z.length ≤ 16777216 then some (PyData.str (Txt.replace (mk l) y z), α') else none) = _
  rw [hz, mk_len, mk_len, if_pos hb, hy, repl_mk]
  rfl
theorem o92 : ("\\" : Str) = mk [92] := by decide +kernel
theorem o9292 : ("\\\\" : Str) = mk [92, 92] := by decide +kernel
theorem o34 : ("\"" : Str) = mk [34] := by decide +kernel
theorem o9234 : ("\\\"" : Str) = mk [92, 34] := by decide +kernel
theorem o10 : ("\n" : Str) = mk [10] := by decide +kernel
theorem o92110 : ("\\n" : Str) = mk [92, 110] := by decide +kernel
theorem o40 : ("(" : Str) = mk [40] := by decide +kernel
theorem o41 : (")" : Str) = mk [41] := by decide +kernel
theorem o32 : (" " : Str) = mk [32] := by decide +kernel
theorem o45 : ("-" : Str) = mk [45] := by decide +kernel
theorem o48 : ("0" : Str) = mk [48] := by decide +kernel
theorem o78 : ("N" : Str) = mk [78] := by decide +kernel
theorem o84 : ("T" : Str) = mk [84] := by decide +kernel
theorem o70 : ("F" : Str) = mk [70] := by decide +kernel
theorem o110 : ("n" : Str) = mk [110] := by decide +kernel
theorem oE : ("" : Str) = mk [] := by decide +kernel
theorem esc_run {f : Ev → Option (D × Ev)} {α α' : Ev} {l : List Nat} (hf : f α = some (.str (mk l), α')) (hl : l.length ≤ 200000) : cRepl "\n" "\\n" (cRepl "\"" "\\\"" (cRepl "\\" "\\\\" f)) α = some (.str (mk (esc l)), α') := by
  have h1 := r1_len 92 92 92 l
  have h2 := r1_len 34 92 34 (r1 92 [92, 92] l)
  rw [cRepl_mk (cRepl_mk (cRepl_mk hf o92 o9292 (by show l.length + (l.length + 1) * 2 ≤ _; omega)) o34 o9234 (by show _ + (_ + 1) * 2 ≤ _; omega)) o10 o92110 (by show _ + (_ + 1) * 2 ≤ _; omega), esc_r1]
theorem esc_ge (l : List Nat) : l.length ≤ (esc l).length := by
  induction l with
  | nil => exact Nat.zero_le _
  | cons c r ih =>
    unfold esc at ih ⊢
    rw [List.flatMap_cons, List.length_append, List.length_cons]
    have : 1 ≤ (esc1 c).length := by unfold esc1; split; · decide
                                     split; · decide
                                     split <;> simp
    omega
theorem add_mk {a b : List Nat} (h : a.length + b.length ≤ 1000000) : dAdd (.str (mk a)) (.str (mk b)) = some (.str (mk (a ++ b))) := by
  unfold dAdd dAddI dAddS
  simp only [mk_len, if_pos (big_line h), mk_cat]
  rfl
theorem F_quoted {l : List Nat} (h : (esc l).length ≤ 200000) : c__quoted.F [.im (.str (mk l))] = some (.str (mk (34 :: (esc l ++ [34]))), [.im (.str (mk l))]) := by
  have hl := esc_ge l
  unfold c__quoted fnD g__quoted
  have e1 := esc_run (f := cVar 0) (α := [.im (.str (mk l)), .no]) (α' := [.im (.str (mk l)), .no]) (l := l) rfl (by omega)
  simp only [o34] at e1
  have a1 : dAdd (.str (mk [34])) (.str (mk (esc l))) = some (.str (mk (34 :: esc l))) := add_mk (by show 1 + _ ≤ _; omega)
  have a2 : dAdd (.str (mk (34 :: esc l))) (.str (mk [34])) = some (.str (mk (34 :: (esc l ++ [34])))) := add_mk (by rw [List.length_cons]; show _ + 1 + 1 ≤ _; omega)
  simp [cRun, sSeq, sSet, sRet, sSkip, sDrop, sAsg, sStore, sOwn, sFrz, frzA, sBreak, sCont, cIf, cT, cTr, cVar, cPure, cOp, cUn, cAnd, cOr, cNot, cNotE, cBand, cBor, cACons, cANil, cBlt, cTup, cLst, cFrz, cPeek, cPeekT, cSl, cPart, cNoP, cSm, outs, asBool, asInt, asStr, truD, thaw, ob_some, atom, cOwn, hAppend, gNm, cYes, e1, o34, a1, a2]
/-! ### joining -/
theorem joinL_len (z : List Nat) : ∀ ys : List (List Nat), (ys.map (·.length)).sum + ys.length * z.length ≤ (TL.joinL z ys).length + z.length
  | [] => by simp
  | [p] => by simp [TL.joinL]
  | p :: q :: r => by
    have ih := joinL_len z (q :: r)
    rw [joinL_cons z p (by simp)]
    rw [List.length_append, List.length_append, List.map_cons, List.sum_cons, List.length_cons, Nat.succ_mul]
    omega
theorem joinL_mem {z p : List Nat} {ys : List (List Nat)} (h : p ∈ ys) : p.length ≤ (TL.joinL z ys).length := by
  induction ys with
  | nil => cases h
  | cons a r ih =>
    cases r with
    | nil =>
      rw [List.mem_singleton.mp h]
      exact Nat.le_refl _
    | cons q r =>
      rw [joinL_cons z a (by simp), List.length_append, List.length_append]
      rcases List.mem_cons.mp h with e | h
      · rw [e]; omega
      · have := ih h
        omega
theorem strsD_mk (ys : List (List Nat)) : strsD (ys.map fun l => PyData.str (mk l)) = some (ys.map mk) := by
  induction ys with
  | nil => rfl
  | cons a r ih =>
    show (asStr (.str (mk a))).bind _ = _
    show (strsD (r.map fun l => PyData.str (mk l))).bind _ = _
    rw [ih]
    rfl
theorem hJoin_mk {z : List Nat} {ys : List (List Nat)} (h : (TL.joinL z ys).length + z.length ≤ 1000000) : hJoin (mk z) [.list (ys.map fun l => PyData.str (mk l))] = some (.str (mk (TL.joinL z ys))) := by
  unfold hJoin
  show (strsD (ys.map fun l => PyData.str (mk l))).bind _ = _
  rw [strsD_mk]
  have e : ((ys.map mk).map (·.length)) = ys.map (·.length) := by
    rw [List.map_map]
    exact List.map_congr_left fun l _ => mk_len l
  show (if ((ys.map mk).map (·.length)).sum + (ys.map mk).length * (mk z).length ≤ 16777216 then some (PyData.str (Txt.join (mk z) (ys.map mk))) else none) = _
  have := joinL_len z ys
  rw [e, mk_len, List.length_map, if_pos (by omega), join_mk]
/-! ### comprehensions -/
theorem compL_map {vs : List Nat} {tg : D → Ev → Option Ev} {te : Ev → Option (D × Ev)} {R : Ev → Prop} {f : D → D} : ∀ (ds : List D) (α : Ev), R α → (∀ d ∈ ds, ∀ α, R α → ∃ α1 α2, tg d (wipeA α vs) = some α1 ∧ te α1 = some (f d, α2) ∧ R α2) →
    ∃ α', compL vs tg cYes te ds α = some (ds.map f, α') ∧ R α'
  | [], α, h, _ => ⟨α, rfl, h⟩
  | d :: ds, α, h, k => by
    obtain ⟨α1, α2, e1, e2, h2⟩ := k d List.mem_cons_self α h
    obtain ⟨α', e3, h3⟩ := compL_map ds α2 h2 fun d hd => k d (List.mem_cons_of_mem _ hd)
    refine ⟨α', ?_, h3⟩
    unfold compL
    rw [e1]
    show (te α1).bind _ = _
    rw [e2]
    show (compL vs tg cYes te ds α2).bind _ = _
    rw [e3]
    rfl
theorem call1 {c : Cal} {fa : Ev → Option (D × Ev)} {α α1 : Ev} {a r : D} (hm : c.m = 1) (ha : fa α = some (a, α1)) (hF : c.F [.im a] = some (r, [.im a])) : cCall c (gaD fa gaNil) α = some (r, α1) := by
  unfold cCall gaD gaNil
  rw [ha]
  show (if 1 = c.m ∧ ([] : List Nat).Nodup ∧ borOk c.bor [.im a] = true then (c.F [.im a]).bind _ else none) = _
  rw [if_pos ⟨hm.symm, .nil, rfl⟩, hF]
  rfl
theorem call2 {c : Cal} {fa fb : Ev → Option (D × Ev)} {α α1 α2 : Ev} {a b r : D} (hm : c.m = 2) (ha : fa α = some (a, α1)) (hb : fb α1 = some (b, α2)) (hF : c.F [.im a, .im b] = some (r, [.im a, .im b])) : cCall c (gaD fa (gaD fb gaNil)) α = some (r, α2) := by
  unfold cCall gaD gaNil
  rw [ha]
  show (((fb α1).bind fun p => (some ([], p.2)).bind fun q => some (.d p.1 :: q.1, q.2)).bind fun q => some (Ag.d a :: q.1, q.2)).bind _ = _
  rw [hb]
  show (if 2 = c.m ∧ ([] : List Nat).Nodup ∧ borOk c.bor [.im a, .im b] = true then (c.F [.im a, .im b]).bind _ else none) = _
  rw [if_pos ⟨hm.symm, .nil, rfl⟩, hF]
  rfl
theorem call3 {c : Cal} {fa fb fc : Ev → Option (D × Ev)} {α α1 α2 α3 : Ev} {a b d r : D} (hm : c.m = 3) (ha : fa α = some (a, α1)) (hb : fb α1 = some (b, α2)) (hc : fc α2 = some (d, α3)) (hF : c.F [.im a, .im b, .im d] = some (r, [.im a, .im b, .im d])) : cCall c (gaD fa (gaD fb (gaD fc gaNil))) α = some (r, α3) := by
  unfold cCall
  have e : gaD fa (gaD fb (gaD fc gaNil)) α = some ([.d a, .d b, .d d], α3) := by
    unfold gaD gaNil
    simp [ha, hb, hc]
  rw [e]
  show (if 3 = c.m ∧ ([] : List Nat).Nodup ∧ borOk c.bor [.im a, .im b, .im d] = true then (c.F [.im a, .im b, .im d]).bind _ else none) = _
  rw [if_pos ⟨hm.symm, .nil, rfl⟩, hF]
  rfl

/-! ### show -/
theorem shw_int_len {i : Int} (h : i.natAbs < 10 ^ 20) : (intL i).length ≤ 21 := by
  have := TL.numL_len (n := i.natAbs) (k := 20) (by decide) h
  unfold intL
  split
  · rw [List.length_cons]; omega
  · omega
theorem log_ok {i : Int} (h : i.natAbs < 10 ^ 20) : i.natAbs.log2 < 1920 := by
  by_cases h0 : i.natAbs = 0
  · rw [h0]; decide
  · have := (Nat.log2_lt h0).mpr (show i.natAbs < 2 ^ 67 from Nat.lt_trans h (by decide))
    omega
theorem str_mk (i : Int) : Str.ofString i.repr = mk (intL i) := int_mk i
theorem F_show (n : Nat) : ∀ (m : Nat) (d : D), n ≤ m → Pl n d → (shw n d).length ≤ 200000 → (c_show_plain m).F [.im d] = some (.str (mk (shw n d)), [.im d]) := by
  induction n with
  | zero => exact fun _ _ _ h _ => h.elim
  | succ n ih =>
    intro m d hm h hl
    obtain ⟨m, rfl⟩ : ∃ k, m = k + 1 := ⟨m - 1, by omega⟩
    show fnD 1 (g_show_plain (c_show_plain m)) _ = _
    unfold fnD g_show_plain
    have k1 : kitB "NoneType" "int" = some false := by decide +kernel
    have k2 : kitB "bool" "int" = some true := by decide +kernel
    have k3 : kitB "int" "int" = some true := by decide +kernel
    have k4 : kitB "str" "int" = some false := by decide +kernel
    have k5 : kitB "tuple" "int" = some false := by decide +kernel
    have k6 : kitB "str" "str" = some true := by decide +kernel
    have k7 : kitB "tuple" "str" = some false := by decide +kernel
    cases d with
    | none => simp [cRun, sSeq, sSet, sRet, sSkip, sDrop, sAsg, sStore, sOwn, sFrz, frzA, sBreak, sCont, cIf, cT, cTr, cVar, cPure, cOp, cUn, cAnd, cOr, cNot, cNotE, cBand, cBor, cACons, cANil, cBlt, cTup, cLst, cFrz, cPeek, cPeekT, cSl, cPart, cNoP, cSm, outs, asBool, asInt, asStr, truD, thaw, ob_some, atom, cOwn, hAppend, gNm, cYes, dIs, dIsN, isNone, shw, o78]
    | bool b => cases b <;> simp [cRun, sSeq, sSet, sRet, sSkip, sDrop, sAsg, sStore, sOwn, sFrz, frzA, sBreak, sCont, cIf, cT, cTr, cVar, cPure, cOp, cUn, cAnd, cOr, cNot, cNotE, cBand, cBor, cACons, cANil, cBlt, cTup, cLst, cFrz, cPeek, cPeekT, cSl, cPart, cNoP, cSm, outs, asBool, asInt, asStr, truD, thaw, ob_some, atom, cOwn, hAppend, gNm, cYes, dIs, dIsN, dIsB, isNone, isBool, shw, o84, o70]
    | int i => simp [cRun, sSeq, sSet, sRet, sSkip, sDrop, sAsg, sStore, sOwn, sFrz, frzA, sBreak, sCont, cIf, cT, cTr, cVar, cPure, cOp, cUn, cAnd, cOr, cNot, cNotE, cBand, cBor, cACons, cANil, cBlt, cTup, cLst, cFrz, cPeek, cPeekT, cSl, cPart, cNoP, cSm, outs, asBool, asInt, asStr, truD, thaw, ob_some, atom, cOwn, hAppend, gNm, cYes, dIs, dIsN, dIsB, isNone, isBool, shw, cIsi, kindD, k3, bStrI, log_ok h, str_mk]
    | str x =>
      have hx : x = mk (sg x) := (mk_sg x).symm
      have hl2 : (esc (sg x)).length ≤ 200000 := by
        have : (34 :: (esc (sg x) ++ [34])).length ≤ 200000 := hl
        rw [List.length_cons, List.length_append] at this
        omega
      have e := call1 (c := c__quoted) (fa := cVar 0) (α := [.im (.str x), .no]) (α1 := [.im (.str x), .no]) rfl rfl (by rw [hx]; exact F_quoted hl2)
      simp [cRun, sSeq, sSet, sRet, sSkip, sDrop, sAsg, sStore, sOwn, sFrz, frzA, sBreak, sCont, cIf, cT, cTr, cVar, cPure, cOp, cUn, cAnd, cOr, cNot, cNotE, cBand, cBor, cACons, cANil, cBlt, cTup, cLst, cFrz, cPeek, cPeekT, cSl, cPart, cNoP, cSm, outs, asBool, asInt, asStr, truD, thaw, ob_some, atom, cOwn, hAppend, gNm, cYes, dIs, dIsN, dIsB, isNone, isBool, shw, cIsi, kindD, k4, k6, e]
    | tuple ds =>
      have hl2 : (TL.joinL [32] (ds.map (shw n))).length + 2 ≤ 200000 := by
        have : (40 :: (TL.joinL [32] (ds.map (shw n)) ++ [41])).length ≤ 200000 := hl
        rw [List.length_cons, List.length_append] at this
        have e : ([41] : List Nat).length = 1 := rfl
        omega
      obtain ⟨α', ec, x', rfl⟩ := compL_map (vs := [1]) (tg := gNm 1) (te := cCall (c_show_plain m) (gaD (cVar 1) gaNil)) (R := fun α => ∃ x, α = [.im (.tuple ds), x]) (f := fun d => .str (mk (shw n d))) ds [.im (.tuple ds), .no] ⟨_, rfl⟩ fun d hd α hα => by
        obtain ⟨x, rfl⟩ := hα
        refine ⟨[.im (.tuple ds), .im d], [.im (.tuple ds), .im d], rfl, call1 (by cases m <;> rfl) rfl (ih m d (by omega) (h.2 d hd) ?_), _, rfl⟩
        have := joinL_mem (z := [32]) (List.mem_map_of_mem (f := shw n) hd)
        omega
      have ej : hJoin (mk [32]) [.list (ds.map fun d => .str (mk (shw n d)))] = some (.str (mk (TL.joinL [32] (ds.map (shw n))))) := by
        have e := hJoin_mk (z := [32]) (ys := ds.map (shw n)) (by show _ + 1 ≤ _; omega)
        rw [List.map_map] at e
        exact e
      have a1 : dAdd (.str (mk [40])) (.str (mk (TL.joinL [32] (ds.map (shw n))))) = some (.str (mk (40 :: TL.joinL [32] (ds.map (shw n))))) := add_mk (by show 1 + _ ≤ _; omega)
      have a2 : dAdd (.str (mk (40 :: TL.joinL [32] (ds.map (shw n))))) (.str (mk [41])) = some (.str (mk (40 :: (TL.joinL [32] (ds.map (shw n)) ++ [41])))) := add_mk (by rw [List.length_cons]; show _ + 1 + 1 ≤ _; omega)
      have hz : ds.length ≤ sizeLine := by
        have := joinL_len [32] (ds.map (shw n))
        simp only [List.length_map, List.length_cons, List.length_nil] at this
        exact big_line (by omega)
      simp [cRun, sSeq, sSet, sRet, sSkip, sDrop, sAsg, sStore, sOwn, sFrz, frzA, sBreak, sCont, cIf, cT, cTr, cVar, cPure, cOp, cUn, cAnd, cOr, cNot, cNotE, cBand, cBor, cACons, cANil, cBlt, cTup, cLst, cFrz, cPeek, cPeekT, cSl, cPart, cNoP, cSm, outs, asBool, asInt, asStr, truD, thaw, ob_some, atom, cOwn, hAppend, gNm, cYes, dIs, dIsN, dIsB, isNone, isBool, shw, cIsi, kindD, k5, k7, cComp, cItems, itemsD, ec, hz, backA, keepIm, o32, o40, o41, ej, a1, a2]
    | list _ => exact h.elim
    | dict _ => exact h.elim
/-! the law's own text -/
theorem F_plain (n : Nat) : ∀ (m : Nat) (d : D), n ≤ m → Pl n d → (shw n d).length ≤ 200000 → (c__law_plain m).F [.im d] = some (.str (mk (shw n d)), [.im d]) := by
  induction n with
  | zero => exact fun _ _ _ h _ => h.elim
  | succ n ih =>
    intro m d hm h hl
    obtain ⟨m, rfl⟩ : ∃ k, m = k + 1 := ⟨m - 1, by omega⟩
    show fnD 1 (g__law_plain (c__law_plain m)) _ = _
    unfold fnD g__law_plain
    have k1 : kitB "NoneType" "int" = some false := by decide +kernel
    have k2 : kitB "bool" "int" = some true := by decide +kernel
    have k3 : kitB "int" "int" = some true := by decide +kernel
    have k4 : kitB "str" "int" = some false := by decide +kernel
    have k5 : kitB "tuple" "int" = some false := by decide +kernel
    have k6 : kitB "str" "tuple" = some false := by decide +kernel
    have k7 : kitB "tuple" "tuple" = some true := by decide +kernel
    cases d with
    | none => simp [cRun, sSeq, sSet, sRet, sSkip, sDrop, sAsg, sStore, sOwn, sFrz, frzA, sBreak, sCont, cIf, cT, cTr, cVar, cPure, cOp, cUn, cAnd, cOr, cNot, cNotE, cBand, cBor, cACons, cANil, cBlt, cTup, cLst, cFrz, cPeek, cPeekT, cSl, cPart, cNoP, cSm, outs, asBool, asInt, asStr, truD, thaw, ob_some, atom, cOwn, hAppend, gNm, cYes, dIs, dIsN, isNone, shw, o78]
    | bool b => cases b <;> simp [cRun, sSeq, sSet, sRet, sSkip, sDrop, sAsg, sStore, sOwn, sFrz, frzA, sBreak, sCont, cIf, cT, cTr, cVar, cPure, cOp, cUn, cAnd, cOr, cNot, cNotE, cBand, cBor, cACons, cANil, cBlt, cTup, cLst, cFrz, cPeek, cPeekT, cSl, cPart, cNoP, cSm, outs, asBool, asInt, asStr, truD, thaw, ob_some, atom, cOwn, hAppend, gNm, cYes, dIs, dIsN, dIsB, isNone, isBool, shw, o84, o70]
    | int i => simp [cRun, sSeq, sSet, sRet, sSkip, sDrop, sAsg, sStore, sOwn, sFrz, frzA, sBreak, sCont, cIf, cT, cTr, cVar, cPure, cOp, cUn, cAnd, cOr, cNot, cNotE, cBand, cBor, cACons, cANil, cBlt, cTup, cLst, cFrz, cPeek, cPeekT, cSl, cPart, cNoP, cSm, outs, asBool, asInt, asStr, truD, thaw, ob_some, atom, cOwn, hAppend, gNm, cYes, dIs, dIsN, dIsB, isNone, isBool, shw, cIsi, kindD, k3, bStrI, log_ok h, str_mk]
    | str x =>
      have hx : x = mk (sg x) := (mk_sg x).symm
      have hl2 : (esc (sg x)).length + 2 ≤ 200000 := by
        have : (34 :: (esc (sg x) ++ [34])).length ≤ 200000 := hl
        rw [List.length_cons, List.length_append] at this
        have e : ([34] : List Nat).length = 1 := rfl
        omega
      have hl3 := esc_ge (sg x)
      have e1 := esc_run (f := cVar 0) (α := [.im (.str x), .no]) (α' := [.im (.str x), .no]) (l := sg x) (by rw [mk_sg]; rfl) (by omega)
      simp only [o34] at e1
      have a1 : dAdd (.str (mk [34])) (.str (mk (esc (sg x)))) = some (.str (mk (34 :: esc (sg x)))) := add_mk (by show 1 + _ ≤ _; omega)
      have a2 : dAdd (.str (mk (34 :: esc (sg x)))) (.str (mk [34])) = some (.str (mk (34 :: (esc (sg x) ++ [34])))) := add_mk (by rw [List.length_cons]; show _ + 1 + 1 ≤ _; omega)
      simp [cRun, sSeq, sSet, sRet, sSkip, sDrop, sAsg, sStore, sOwn, sFrz, frzA, sBreak, sCont, cIf, cT, cTr, cVar, cPure, cOp, cUn, cAnd, cOr, cNot, cNotE, cBand, cBor, cACons, cANil, cBlt, cTup, cLst, cFrz, cPeek, cPeekT, cSl, cPart, cNoP, cSm, outs, asBool, asInt, asStr, truD, thaw, ob_some, atom, cOwn, hAppend, gNm, cYes, dIs, dIsN, dIsB, isNone, isBool, shw, cIsi, kindD, k4, k6, e1, o34, a1, a2]
    | tuple ds =>
      have hl2 : (TL.joinL [32] (ds.map (shw n))).length + 2 ≤ 200000 := by
        have : (40 :: (TL.joinL [32] (ds.map (shw n)) ++ [41])).length ≤ 200000 := hl
        rw [List.length_cons, List.length_append] at this
        have e : ([41] : List Nat).length = 1 := rfl
        omega
      obtain ⟨α', ec, x', rfl⟩ := compL_map (vs := [1]) (tg := gNm 1) (te := cCall (c__law_plain m) (gaD (cVar 1) gaNil)) (R := fun α => ∃ x, α = [.im (.tuple ds), x]) (f := fun d => .str (mk (shw n d))) ds [.im (.tuple ds), .no] ⟨_, rfl⟩ fun d hd α hα => by
        obtain ⟨x, rfl⟩ := hα
        refine ⟨[.im (.tuple ds), .im d], [.im (.tuple ds), .im d], rfl, call1 (by cases m <;> rfl) rfl (ih m d (by omega) (h.2 d hd) ?_), _, rfl⟩
        have := joinL_mem (z := [32]) (List.mem_map_of_mem (f := shw n) hd)
        omega
      have ej : hJoin (mk [32]) [.list (ds.map fun d => .str (mk (shw n d)))] = some (.str (mk (TL.joinL [32] (ds.map (shw n))))) := by
        have e := hJoin_mk (z := [32]) (ys := ds.map (shw n)) (by show _ + 1 ≤ _; omega)
        rw [List.map_map] at e
        exact e
      have a1 : dAdd (.str (mk [40])) (.str (mk (TL.joinL [32] (ds.map (shw n))))) = some (.str (mk (40 :: TL.joinL [32] (ds.map (shw n))))) := add_mk (by show 1 + _ ≤ _; omega)
      have a2 : dAdd (.str (mk (40 :: TL.joinL [32] (ds.map (shw n))))) (.str (mk [41])) = some (.str (mk (40 :: (TL.joinL [32] (ds.map (shw n)) ++ [41])))) := add_mk (by rw [List.length_cons]; show _ + 1 + 1 ≤ _; omega)
      have hz : ds.length ≤ sizeLine := by
        have := joinL_len [32] (ds.map (shw n))
        simp only [List.length_map, List.length_cons, List.length_nil] at this
        exact big_line (by omega)
      simp [cRun, sSeq, sSet, sRet, sSkip, sDrop, sAsg, sStore, sOwn, sFrz, frzA, sBreak, sCont, cIf, cT, cTr, cVar, cPure, cOp, cUn, cAnd, cOr, cNot, cNotE, cBand, cBor, cACons, cANil, cBlt, cTup, cLst, cFrz, cPeek, cPeekT, cSl, cPart, cNoP, cSm, outs, asBool, asInt, asStr, truD, thaw, ob_some, atom, cOwn, hAppend, gNm, cYes, dIs, dIsN, dIsB, isNone, isBool, shw, cIsi, kindD, k5, k7, cComp, cItems, itemsD, ec, hz, backA, keepIm, o32, o40, o41, ej, a1, a2]
    | list _ => exact h.elim
    | dict _ => exact h.elim

/-! ### the same -/
theorem kit_facts : kitB "tuple" "tuple" = some true ∧ kitB "NoneType" "tuple" = some false ∧ kitB "bool" "tuple" = some false ∧ kitB "int" "tuple" = some false ∧ kitB "str" "tuple" = some false ∧ kitB "int" "int" = some true ∧ kitB "str" "int" = some false ∧ kitB "int" "bool" = some false ∧ kitB "str" "str" = some true := by decide +kernel
theorem str_eq {x : Str} (h : ∀ c ∈ sg x, c < 1114112) : dEq (.str x) (.str x) = some (.bool true) := by
  have hs : SeqAt.shaped (.str x) = true := by
    show (x.cps.all (· < 0x110000) && decide (PyData.depth (.str x) ≤ 64)) = true
    rw [Bool.and_eq_true]
    refine ⟨?_, rfl⟩
    rw [← Array.all_toList, List.all_eq_true]
    intro c hc
    exact decide_eq_true (h c hc)
  unfold dEq
  rw [if_pos ⟨hs, hs⟩]
  show some (PyData.bool (x == x)) = _
  rw [beq_self_eq_true]
theorem int_eq (i j : Int) : dEq (.int i) (.int j) = some (.bool (i == j)) := rfl
theorem int_ne (i j : Int) : dNe (.int i) (.int j) = some (.bool (!(i == j))) := rfl
/-- a for whose body changes nothing but names -/
theorem forL_all {tg : D → Ev → Option Ev} {body : Ev → Option Out} {R : Ev → Prop} : ∀ (ds : List D) (α : Ev), R α → (∀ d ∈ ds, ∀ α, R α → ∃ α1 α2, tg d α = some α1 ∧ body α1 = some (.nx α2) ∧ R α2) → ∃ α', forL tg body ds α = some (.nx α') ∧ R α'
  | [], α, h, _ => ⟨α, rfl, h⟩
  | d :: ds, α, h, k => by
    obtain ⟨α1, α2, e1, e2, h2⟩ := k d List.mem_cons_self α h
    obtain ⟨α', e3, h3⟩ := forL_all ds α2 h2 fun d hd => k d (List.mem_cons_of_mem _ hd)
    refine ⟨α', ?_, h3⟩
    unfold forL
    rw [e1]
    show (body α1).bind _ = _
    rw [e2]
    exact e3
theorem F_same_str (m : Nat) {x : Str} (h : ∀ c ∈ sg x, c < 1114112) : (c__law_same (m + 1)).F [.im (.str x), .im (.str x)] = some (.bool true, [.im (.str x), .im (.str x)]) := by
  obtain ⟨q1, q2, q3, q4, q5, q6, q7, q8, q9⟩ := kit_facts
  show fnD 1 (g__law_same (c__law_same m)) _ = _
  unfold fnD g__law_same
  simp [cRun, sSeq, sSet, sRet, sSkip, sDrop, sAsg, sStore, sOwn, sFrz, frzA, sBreak, sCont, cIf, cT, cTr, cVar, cPure, cOp, cUn, cAnd, cOr, cNot, cNotE, cBand, cBor, cACons, cANil, cBlt, cTup, cLst, cFrz, cPeek, cPeekT, cSl, cPart, cNoP, cSm, outs, asBool, asInt, asStr, truD, thaw, ob_some, atom, cOwn, hAppend, gNm, cYes, dIs, dIsN, dIsB, isNone, isBool, cIsi, kindD, q5, q7, q9, str_eq h]

theorem rngOk_nat {n : Nat} (h : n ≤ 1000000) : rngOk (n : Int) = true := decide_eq_true (by omega)
theorem cRng1_ok {f : Ev → Option (D × Ev)} {α α' : Ev} {n : Nat} (h : f α = some (.int (n : Int), α')) (hn : n ≤ 1000000) : cRng1 f α = some (rngD 0 n, α') := by
  have r := rngOk_nat hn
  unfold cRng1
  generalize rngOk = rk at r ⊢
  simp only [h, ob_some, asInt, r, if_true, Int.toNat_natCast]
theorem F_same_tup (m : Nat) (ds : List D) (hz : ds.length ≤ 200000) (h : ∀ d ∈ ds, (c__law_same m).F [.im d, .im d] = some (.bool true, [.im d, .im d])) : fnD 1 (g__law_same (c__law_same m)) [.im (.tuple ds), .im (.tuple ds)] = some (.bool true, [.im (.tuple ds), .im (.tuple ds)]) := by
  obtain ⟨q1, q2, q3, q4, q5, q6, q7, q8, q9⟩ := kit_facts
  unfold fnD g__law_same
  obtain ⟨α', ec, x', rfl⟩ := forL_all (tg := gNm 2) (body := cIf (cNot (cTr (cCall (c__law_same m) (gaD (cOp dIx (cVar 0) (cVar 2)) (gaD (cOp dIx (cVar 1) (cVar 2)) gaNil))))) (sRet (cPure (.bool false))) sSkip)
    (R := fun α => ∃ x, α = [.im (.tuple ds), .im (.tuple ds), x]) (rngD 0 ds.length) [.im (.tuple ds), .im (.tuple ds), .no] ⟨_, rfl⟩ fun d hd α hα => by
    obtain ⟨x, rfl⟩ := hα
    obtain ⟨k, hk, rfl⟩ := List.mem_map.mp hd
    rw [List.mem_range] at hk
    have g : ds[k]? = some ds[k] := List.getElem?_eq_getElem hk
    have ei : dIx (.tuple ds) (.int (0 + (k : Int))) = some ds[k] := by
      rw [Int.zero_add]
      simp [dIx, dIxL, dIxT, atI_nat, g]
    have hmem : ds[k] ∈ ds := List.getElem_mem hk
    generalize ds[k] = dk at *
    have e := call2 (c := c__law_same m) (fa := cOp dIx (cVar 0) (cVar 2)) (fb := cOp dIx (cVar 1) (cVar 2)) (α := [.im (.tuple ds), .im (.tuple ds), .im (.int (0 + (k : Int)))]) (α1 := [.im (.tuple ds), .im (.tuple ds), .im (.int (0 + (k : Int)))]) (α2 := [.im (.tuple ds), .im (.tuple ds), .im (.int (0 + (k : Int)))]) (a := dk) (b := dk) (by cases m <;> rfl) (by unfold cOp cVar; simp only [List.getElem?_cons_zero, List.getElem?_cons_succ, ob_some, ei]) (by unfold cOp cVar; simp only [List.getElem?_cons_zero, List.getElem?_cons_succ, ob_some, ei]) (h _ hmem)
    refine ⟨[.im (.tuple ds), .im (.tuple ds), .im (.int (0 + (k : Int)))], [.im (.tuple ds), .im (.tuple ds), .im (.int (0 + (k : Int)))], rfl, ?_, _, rfl⟩
    simp only [cIf, cNot, cTr, e, ob_some, truD]
    rfl
  have er : cRng1 (cBlt bLen (cACons (cVar 1) cANil)) [.im (.tuple ds), .im (.tuple ds), .no] = some (rngD 0 ds.length, [.im (.tuple ds), .im (.tuple ds), .no]) := cRng1_ok rfl (by omega)
  simp [cRun, sSeq, sSet, sRet, sSkip, sDrop, sAsg, sStore, sOwn, sFrz, frzA, sBreak, sCont, cIf, cT, cTr, cVar, cPure, cOp, cUn, cAnd, cOr, cNot, cNotE, cBand, cBor, cACons, cANil, cBlt, cTup, cLst, cFrz, cPeek, cPeekT, cSl, cPart, cNoP, cSm, outs, asBool, asInt, asStr, truD, thaw, ob_some, atom, cOwn, hAppend, gNm, cYes, dIs, dIsN, dIsB, isNone, isBool, cIsi, kindD, q1, bLen, int_ne, sFor, er, ec]
theorem F_same_at (m : Nat) (d : D) (h : (d = .none ∨ ∃ b, d = .bool b) ∨ ∃ i, d = .int i) : fnD 1 (g__law_same (c__law_same m)) [.im d, .im d] = some (.bool true, [.im d, .im d]) := by
  obtain ⟨q1, q2, q3, q4, q5, q6, q7, q8, q9⟩ := kit_facts
  unfold fnD g__law_same
  rcases h with (rfl | ⟨b, rfl⟩) | ⟨i, rfl⟩
  · simp [cRun, sSeq, sSet, sRet, sSkip, sDrop, sAsg, sStore, sOwn, sFrz, frzA, sBreak, sCont, cIf, cT, cTr, cVar, cPure, cOp, cUn, cAnd, cOr, cNot, cNotE, cBand, cBor, cACons, cANil, cBlt, cTup, cLst, cFrz, cPeek, cPeekT, cSl, cPart, cNoP, cSm, outs, asBool, asInt, asStr, truD, thaw, ob_some, atom, cOwn, hAppend, gNm, cYes, dIs, dIsN, isNone, cIsi, kindD, q2]
  · cases b <;> simp [cRun, sSeq, sSet, sRet, sSkip, sDrop, sAsg, sStore, sOwn, sFrz, frzA, sBreak, sCont, cIf, cT, cTr, cVar, cPure, cOp, cUn, cAnd, cOr, cNot, cNotE, cBand, cBor, cACons, cANil, cBlt, cTup, cLst, cFrz, cPeek, cPeekT, cSl, cPart, cNoP, cSm, outs, asBool, asInt, asStr, truD, thaw, ob_some, atom, cOwn, hAppend, gNm, cYes, dIs, dIsN, dIsB, isNone, isBool, cIsi, kindD, q3]
  · simp [cRun, sSeq, sSet, sRet, sSkip, sDrop, sAsg, sStore, sOwn, sFrz, frzA, sBreak, sCont, cIf, cT, cTr, cVar, cPure, cOp, cUn, cAnd, cOr, cNot, cNotE, cBand, cBor, cACons, cANil, cBlt, cTup, cLst, cFrz, cPeek, cPeekT, cSl, cPart, cNoP, cSm, outs, asBool, asInt, asStr, truD, thaw, ob_some, atom, cOwn, hAppend, gNm, cYes, dIs, dIsN, dIsB, isNone, isBool, cIsi, kindD, q4, q6, q8, int_eq]
theorem same_succ (m : Nat) : (c__law_same (m + 1)).F = fnD 1 (g__law_same (c__law_same m)) := rfl
theorem F_same (n : Nat) : ∀ (m : Nat) (d : D), n ≤ m → Pl n d → (shw n d).length ≤ 200000 → (c__law_same m).F [.im d, .im d] = some (.bool true, [.im d, .im d]) := by
  induction n with
  | zero => exact fun _ _ _ h _ => h.elim
  | succ n ih =>
    intro m d hm h hl
    obtain ⟨m, rfl⟩ : ∃ k, m = k + 1 := ⟨m - 1, by omega⟩
    cases d with
    | str x => exact F_same_str m fun c hc => Nat.lt_trans (h c hc) (by decide)
    | none => rw [same_succ]; exact F_same_at m _ (.inl (.inl rfl))
    | bool b => rw [same_succ]; exact F_same_at m _ (.inl (.inr ⟨b, rfl⟩))
    | int i => rw [same_succ]; exact F_same_at m _ (.inr ⟨i, rfl⟩)
    | tuple ds =>
      rw [same_succ]
      have hl2 : (TL.joinL [32] (ds.map (shw n))).length + 2 ≤ 200000 := by
        have : (40 :: (TL.joinL [32] (ds.map (shw n)) ++ [41])).length ≤ 200000 := hl
        rw [List.length_cons, List.length_append] at this
        have e : ([41] : List Nat).length = 1 := rfl
        omega
      have hz : ds.length ≤ 200000 := by
        have := joinL_len [32] (ds.map (shw n))
        simp only [List.length_map, List.length_cons, List.length_nil] at this
        omega
      refine F_same_tup m ds hz fun d hd => ih m d (by omega) (h.2 d hd) ?_
      have := joinL_mem (z := [32]) (List.mem_map_of_mem (f := shw n) hd)
      omega
    | list _ => exact h.elim
    | dict _ => exact h.elim
end Law
set_option maxHeartbeats 4000000
namespace Law
open PySem PySem.Spec L2 Pv
/-! ### reading -/
theorem oDIG : ("0123456789" : Str) = mk [48, 49, 50, 51, 52, 53, 54, 55, 56, 57] := by decide +kernel
theorem line_ok {l : List Nat} (h : l.length ≤ 1000000) : (mk l).length ≤ sizeLine := by rw [mk_len]; exact big_line h
theorem len_str {l : List Nat} (h : l.length ≤ 1000000) : bLen [.str (mk l)] = some (.int (l.length : Int)) := by
  show (if (mk l).length ≤ sizeLine then some (PyData.int ((mk l).length : Int)) else none) = _
  rw [if_pos (line_ok h), mk_len]
theorem lstrip_str {l b : List Nat} (h : l.length ≤ 1000000) : hLstrip (mk l) [.str (mk b)] = some (.str (mk (l.dropWhile fun c => b.contains c))) := by
  show (if (mk l).length ≤ sizeLine then some (PyData.str (Txt.lstripChars (mk l) (mk b))) else none) = _
  rw [if_pos (line_ok h), lstrip_mk]
/-- text[p:p+1] -/
theorem sl1 {pre txt : List Nat} {i : Int} {p : Nat} (hp : pre.length = p) (hi : i = (p : Int)) (hl : (pre ++ txt).length ≤ 1000000) : dSl (.str (mk (pre ++ txt))) (some i) (some (i + 1)) = some (.str (mk (txt.take 1))) := by
  subst hi
  unfold dSl
  have e : ((p : Int) + 1) = ((p + 1 : Nat) : Int) := by omega
  simp only [if_pos (line_ok hl), e, cut_nat, List.drop_left' hp, show p + 1 - p = 1 by omega]
theorem slN {pre txt : List Nat} {i j : Int} {p n : Nat} (hp : pre.length = p) (hi : i = (p : Int)) (hj : j = ((p + n : Nat) : Int)) (hl : (pre ++ txt).length ≤ 1000000) : dSl (.str (mk (pre ++ txt))) (some i) (some j) = some (.str (mk (txt.take n))) := by
  subst hi hj
  unfold dSl
  simp only [if_pos (line_ok hl), cut_nat, List.drop_left' hp, show p + n - p = n by omega]
theorem canS {l : List Nat} (h : ∀ c ∈ l, c < 128) : SeqAt.shaped (.str (mk l)) = true := by
  show ((mk l).cps.all (· < 0x110000) && decide (PyData.depth (.str (mk l)) ≤ 64)) = true
  rw [Bool.and_eq_true]
  refine ⟨?_, rfl⟩
  rw [← Array.all_toList, List.all_eq_true]
  intro c hc
  exact decide_eq_true (Nat.lt_trans (h c hc) (by decide))
theorem eq_mk {a b : List Nat} (ha : ∀ c ∈ a, c < 128) (hb : ∀ c ∈ b, c < 128) : dEq (.str (mk a)) (.str (mk b)) = some (.bool (decide (a = b))) := by
  unfold dEq
  rw [if_pos ⟨canS ha, canS hb⟩]
  show some (PyData.bool (mk a == mk b)) = _
  congr 2
  by_cases h : a = b
  · subst h; simp
  · rw [decide_eq_false h]
    exact beq_eq_false_iff_ne.mpr fun e => h (mk_inj e)
theorem ne_mk {a b : List Nat} (ha : ∀ c ∈ a, c < 128) (hb : ∀ c ∈ b, c < 128) : dNe (.str (mk a)) (.str (mk b)) = some (.bool (!decide (a = b))) := by
  have := eq_mk ha hb
  unfold dEq at this
  unfold dNe
  rw [if_pos ⟨canS ha, canS hb⟩] at this ⊢
  injection this with this
  injection this with this
  rw [this]
/-! numbers -/
theorem numL_dig (n : Nat) : ∀ c ∈ TL.numL n, 48 ≤ c ∧ c ≤ 57 := fun c hc => TL.numL_digits n c hc
theorem numL_zero (n : Nat) (h : (TL.numL n)[0]? = some 48) : n = 0 := by
  induction n using Nat.strongRecOn with
  | ind n ih =>
    by_cases h10 : n < 10
    · rw [TL.numL_lt h10] at h
      have h : 48 + n = 48 := by simpa using h
      omega
    · have hs := TL.numL_step (n := n) (by omega)
      rw [hs] at h
      have hne := TL.numL_ne (n / 10)
      have h2 : (TL.numL (n / 10))[0]? = some 48 := by
        rw [List.getElem?_append_left (List.length_pos_iff.mpr hne)] at h
        exact h
      have := ih (n / 10) (by omega) h2
      omega
theorem tw_dig {a b : List Nat} {p : Nat → Bool} (ha : ∀ c ∈ a, p c = true) (hb : ∀ c, b.head? = some c → p c = false) : (a ++ b).dropWhile p = b := by
  induction a with
  | nil =>
    cases b with
    | nil => rfl
    | cons c r =>
      have := hb c rfl
      simp [List.dropWhile_cons, this]
  | cons c r ih =>
    rw [List.cons_append, List.dropWhile_cons, if_pos (ha c List.mem_cons_self)]
    exact ih fun d hd => ha d (List.mem_cons_of_mem _ hd)
/-- what follows is no digit -/
def NoDig (l : List Nat) : Prop := ∀ c, l.head? = some c → ¬ (48 ≤ c ∧ c ≤ 57)
theorem NoDig.take {l : List Nat} (h : NoDig l) (n : Nat) : NoDig (l.take n) := fun c hc => by
  cases l with
  | nil => simp at hc
  | cons d r =>
    cases n with
    | zero => simp at hc
    | succ n => exact h c (by simpa using hc)
theorem dig_in {c : Nat} : ([48, 49, 50, 51, 52, 53, 54, 55, 56, 57].contains c) = decide (48 ≤ c ∧ c ≤ 57) := by
  rw [List.contains_eq_mem, decide_eq_decide]
  simp only [List.mem_cons, List.not_mem_nil, or_false]
  omega
theorem F_int {pre post : List Nat} {i : Int} (hi : i.natAbs < 10 ^ 20) (hp : NoDig post) (hA : ∀ c ∈ post, c < 128) (hl : (pre ++ (intL i ++ post)).length ≤ 400000) :
    c__integer.F [.im (.str (mk (pre ++ (intL i ++ post)))), .im (.int (pre.length : Int))] = some (.tuple [.int i, .int ((pre.length + (intL i).length : Nat) : Int)], [.im (.str (mk (pre ++ (intL i ++ post)))), .im (.int (pre.length : Int))]) := by
  have hnl := TL.numL_len (n := i.natAbs) (k := 20) (by decide) hi
  have hne := TL.numL_ne i.natAbs
  have hdg := numL_dig i.natAbs
  have hz := numL_zero i.natAbs
  have hval : intText? (mk (TL.numL i.natAbs)) = some ((i.natAbs : Nat) : Int) := by
    have e := TL.int_num (n := i.natAbs) (by omega)
    have e2 : Str.ofString (toString ((i.natAbs : Nat) : Int)) = mk (TL.numL i.natAbs) := TL.ext_tl (TL.tl_num _)
    rw [e2] at e
    exact e
  generalize hN : TL.numL i.natAbs = N at *
  have hNp : 0 < N.length := List.length_pos_iff.mpr hne
  have l1 : ∀ c ∈ N, c < 128 := fun c hc => by have := hdg c hc; omega
  -- the reading behind the sign
  have core : ∀ (q : List Nat), q.length ≤ 400000 → (q ++ (N ++ post)).length ≤ 400000 →
      dSl (.str (mk (q ++ (N ++ post)))) (some (q.length : Int)) (some ((q.length : Int) + 2000 + 1)) = some (.str (mk (N ++ post.take (2001 - N.length)))) := fun q _ hq => by
    rw [slN (n := 2001) rfl rfl (by omega) (by omega), List.take_append, List.take_of_length_le (by omega)]
  have ls : hLstrip (mk (N ++ post.take (2001 - N.length))) [.str (mk [48, 49, 50, 51, 52, 53, 54, 55, 56, 57])] = some (.str (mk (post.take (2001 - N.length)))) := by
    rw [lstrip_str (by rw [List.length_append, List.length_take]; omega), tw_dig (fun c hc => by rw [dig_in]; exact decide_eq_true (hdg c hc)) fun c hc => by rw [dig_in]; exact decide_eq_false (hp.take _ c hc)]
  have len1 : bLen [.str (mk (N ++ post.take (2001 - N.length)))] = some (.int ((N.length + (post.take (2001 - N.length)).length : Nat) : Int)) := by
    rw [len_str (by rw [List.length_append, List.length_take]; omega), List.length_append]
  have len2 : bLen [.str (mk (post.take (2001 - N.length)))] = some (.int ((post.take (2001 - N.length)).length : Int)) := len_str (by rw [List.length_take]; omega)
  have len3 : bLen [.str (mk N)] = some (.int (N.length : Int)) := len_str (by omega)
  have cut1 : dSl (.str (mk (N ++ post.take (2001 - N.length)))) none (some (N.length : Int)) = some (.str (mk N)) := by
    unfold dSl
    simp only [cut_to, if_pos (line_ok (l := N ++ post.take (2001 - N.length)) (by rw [List.length_append, List.length_take]; omega)), List.take_left' rfl]
  have eqE : dEq (.str (mk N)) (.str (mk [])) = some (.bool false) := by
    rw [eq_mk l1 (by simp), decide_eq_false hne]
  obtain ⟨c0, r0, hc0⟩ : ∃ c r, N = c :: r := by
    cases N with
    | nil => exact (hne rfl).elim
    | cons c r => exact ⟨c, r, rfl⟩
  have ix0 : dIx (.str (mk N)) (.int 0) = some (.str (mk [c0])) := by
    have e : atI N (0 : Int) = some c0 := by
      have := atI_nat N 0
      rw [hc0] at this ⊢
      exact this
    unfold dIx dIxL dIxT dIxS
    simp only [if_pos (line_ok (l := N) (by omega))]
    show (((none : Option D)).or ((none : Option D).or ((atI N (0 : Int)).bind fun c => some (PyData.str ⟨#[c]⟩)))) = _
    rw [e]
    rfl
  have hc128 : c0 < 128 := l1 c0 (by rw [hc0]; exact List.mem_cons_self)
  have eq0 : dEq (.str (mk [c0])) (.str (mk [48])) = some (.bool (decide (c0 = 48))) := by
    rw [eq_mk (by simpa using hc128) (by decide)]
    congr 2
    simp
  have zlen : c0 = 48 → N.length = 1 ∧ i = 0 := fun e => by
    have h0 : i.natAbs = 0 := hz (by rw [hc0, e]; rfl)
    have h1 : N = [48] := by rw [← hN, h0]; rfl
    exact ⟨by rw [h1]; rfl, by omega⟩
  have vI : (fun as => (bInt as).or (bIntS as)) [.str (mk N)] = some (.int ((i.natAbs : Nat) : Int)) := by
    show (none : Option D).or (bIntS [.str (mk N)]) = _
    unfold bIntS
    simp only [mk_len, if_pos (show N.length ≤ 640 by omega), hval]
    rfl
  have gt1 : c0 = 48 → dGt (.int (N.length : Int)) (.int 1) = some (.bool false) := fun e => by
    rw [(zlen e).1]
    rfl
  have gt2 : dGt (.int (N.length : Int)) (.int 2000) = some (.bool false) := by
    show some (PyData.bool (decide ((2000 : Int) < (N.length : Int)))) = _
    rw [decide_eq_false (by omega)]
  unfold c__integer fnD g__integer
  by_cases hneg : i < 0
  · have hI : intL i = 45 :: N := by unfold intL; rw [if_pos hneg, hN]
    rw [hI] at hl ⊢
    have hT : pre ++ (45 :: N ++ post) = (pre ++ [45]) ++ (N ++ post) := by simp
    have hlT : (pre ++ (45 :: N ++ post)).length ≤ 1000000 := by omega
    have s1 := sl1 (i := (pre.length : Int)) rfl rfl hlT
    have s2 := core (pre ++ [45]) (by rw [hT, List.length_append] at hl; omega) (by rw [← hT]; exact hl)
    rw [← hT] at s2
    have el : ((pre ++ [45]).length : Int) = (pre.length : Int) + 1 := by rw [List.length_append]; rfl
    rw [el] at s2
    have t1 : (45 :: N ++ post).take 1 = [45] := rfl
    rw [t1] at s1
    have e45 : dEq (.str (mk [45])) (.str (mk [45])) = some (.bool true) := by rw [eq_mk (by decide) (by decide)]; rfl
    have hnz : c0 ≠ 48 := fun e => by have := (zlen e).2; omega
    have eq0 : dEq (.str (mk [c0])) (.str (mk [48])) = some (.bool false) := by rw [eq0, decide_eq_false hnz]
    have hv : -((i.natAbs : Nat) : Int) = i := by omega
    generalize mk (pre ++ (45 :: N ++ post)) = T at *
    have z2 : (2 : Nat) ≤ sizeLine := by decide
    simp only [List.cons_append] at *
    simp [cRun, sSeq, sSet, sRet, sSkip, sDrop, sAsg, sStore, sOwn, sFrz, frzA, sBreak, sCont, cIf, cT, cTr, cVar, cPure, cOp, cUn, cAnd, cOr, cNot, cNotE, cBand, cBor, cACons, cANil, cBlt, cTup, cLst, cFrz, cPeek, cPeekT, cSl, cPart, cNoP, cSm, outs, asBool, asInt, asStr, truD, thaw, ob_some, atom, cOwn, hAppend, gNm, cYes, cUn, dNeg, s1, s2, o45, e45, o48, oE, oDIG, ls, len1, len2, len3, cut1, eqE, ix0, eq0, gt2, vI, hv, dAdd, dAddI, dSubI, z2]
    omega
  · have hI : intL i = N := by unfold intL; rw [if_neg hneg, hN]
    rw [hI] at hl ⊢
    have hlT : (pre ++ (N ++ post)).length ≤ 1000000 := by omega
    have s1 := sl1 (i := (pre.length : Int)) rfl rfl hlT
    have s2 := core pre (by rw [List.length_append] at hl; omega) hl
    have t1 : (N ++ post).take 1 = [c0] := by rw [hc0]; rfl
    rw [t1] at s1
    have h48 : 48 ≤ c0 := (hdg c0 (by rw [hc0]; exact List.mem_cons_self)).1
    have e45 : dEq (.str (mk [c0])) (.str (mk [45])) = some (.bool false) := by
      rw [eq_mk (by simpa using hc128) (by decide), decide_eq_false]
      intro e
      have e : c0 = 45 := by simpa using e
      omega
    have hv : ((i.natAbs : Nat) : Int) = i := by omega
    generalize mk (pre ++ (N ++ post)) = T at *
    have z2 : (2 : Nat) ≤ sizeLine := by decide
    by_cases hz0 : c0 = 48
    · have eq0 : dEq (.str (mk [c0])) (.str (mk [48])) = some (.bool true) := by rw [eq0, decide_eq_true hz0]
      have gt1 := gt1 hz0
      simp [cRun, sSeq, sSet, sRet, sSkip, sDrop, sAsg, sStore, sOwn, sFrz, frzA, sBreak, sCont, cIf, cT, cTr, cVar, cPure, cOp, cUn, cAnd, cOr, cNot, cNotE, cBand, cBor, cACons, cANil, cBlt, cTup, cLst, cFrz, cPeek, cPeekT, cSl, cPart, cNoP, cSm, outs, asBool, asInt, asStr, truD, thaw, ob_some, atom, cOwn, hAppend, gNm, cYes, s1, s2, o45, e45, o48, oE, oDIG, ls, len1, len2, len3, cut1, eqE, ix0, eq0, gt1, gt2, vI, hv, dAdd, dAddI, dSubI, z2]
    · have eq0 : dEq (.str (mk [c0])) (.str (mk [48])) = some (.bool false) := by rw [eq0, decide_eq_false hz0]
      simp [cRun, sSeq, sSet, sRet, sSkip, sDrop, sAsg, sStore, sOwn, sFrz, frzA, sBreak, sCont, cIf, cT, cTr, cVar, cPure, cOp, cUn, cAnd, cOr, cNot, cNotE, cBand, cBor, cACons, cANil, cBlt, cTup, cLst, cFrz, cPeek, cPeekT, cSl, cPart, cNoP, cSm, outs, asBool, asInt, asStr, truD, thaw, ob_some, atom, cOwn, hAppend, gNm, cYes, s1, s2, o45, e45, o48, oE, oDIG, ls, len1, len2, len3, cut1, eqE, ix0, eq0, gt2, vI, hv, dAdd, dAddI, dSubI, z2]

/-! the end of a stretch -/
theorem tw_all {a : List Nat} {p : Nat → Bool} (h : ∀ c ∈ a, p c = true) (b : List Nat) : (a ++ b).takeWhile p = a ++ b.takeWhile p := by
  induction a with
  | nil => rfl
  | cons c r ih =>
    rw [List.cons_append, List.takeWhile_cons, if_pos (h c List.mem_cons_self), ih fun d hd => h d (List.mem_cons_of_mem _ hd)]
    rfl
theorem tw_le (p : Nat → Bool) (l : List Nat) : (l.takeWhile p).length ≤ l.length := by
  have := congrArg List.length (List.takeWhile_append_dropWhile (p := p) (l := l))
  rw [List.length_append] at this
  omega
theorem tw_take (p : Nat → Bool) (l : List Nat) : l.take (l.takeWhile p).length = l.takeWhile p := by
  conv => lhs; arg 2; rw [← List.takeWhile_append_dropWhile (p := p) (l := l)]
  exact List.take_left' rfl
theorem take_take_tw (p : Nat → Bool) (l : List Nat) (t : Nat) : l.take ((l.take t).takeWhile p).length = (l.take t).takeWhile p := by
  have h := tw_le p (l.take t)
  have e := tw_take p (l.take t)
  rw [List.take_take, Nat.min_eq_left] at e
  · exact e
  · have := List.length_take_le t l
    omega
def bF : Ev → Option Out := sSeq (sSet 4 (cSm hFind4 (cVar 0) (cACons (cVar 3) (cACons (cVar 1) (cACons (cVar 2) cANil))))) (cIf (cT (cOp dGe (cVar 4) (cPure (.int 0)))) (sSet 2 (cVar 4)) sSkip)
theorem bF_step {pre rest : List Nat} {t c : Nat} {x4 : AV} (ht : t ≤ rest.length) : ∃ x4', bF [.im (.str (mk (pre ++ rest))), .im (.int (pre.length : Int)), .im (.int ((pre.length + t : Nat) : Int)), .im (.str (mk [c])), x4] =
    some (.nx [.im (.str (mk (pre ++ rest))), .im (.int (pre.length : Int)), .im (.int ((pre.length + ((rest.take t).takeWhile (· != c)).length : Nat) : Int)), .im (.str (mk [c])), x4']) := by
  have hf : hFind4 (mk (pre ++ rest)) [.str (mk [c]), .int (pre.length : Int), .int ((pre.length + t : Nat) : Int)] = some (.int (find1 (pre ++ rest) c pre.length (pre.length + t))) := by
    show some (PyData.int (Txt.findIn (mk (pre ++ rest)) (mk [c]) (pre.length : Int) ((pre.length + t : Nat) : Int))) = _
    rw [find_mk _ _ _ _ (by rw [List.length_append]; omega)]
  have hseg : ((pre ++ rest).drop pre.length).take (pre.length + t - pre.length) = rest.take t := by
    rw [List.drop_left' rfl, show pre.length + t - pre.length = t by omega]
  unfold find1 at hf
  rw [hseg] at hf
  have gen : ∀ (P Q R : Int) (T : D) (x : Str) (_ : T = .str x) (_ : hFind4 x [.str (mk [c]), .int P, .int Q] = some (.int R)), bF [.im T, .im (.int P), .im (.int Q), .im (.str (mk [c])), x4] = some (.nx [.im T, .im (.int P), .im (.int (if 0 ≤ R then R else Q)), .im (.str (mk [c])), .im (.int R)]) := fun P Q R T x eT h => by
    subst eT
    unfold bF
    by_cases hR : 0 ≤ R
    · simp [cRun, sSeq, sSet, sRet, sSkip, sDrop, sAsg, sStore, sOwn, sFrz, frzA, sBreak, sCont, cIf, cT, cTr, cVar, cPure, cOp, cUn, cAnd, cOr, cNot, cNotE, cBand, cBor, cACons, cANil, cBlt, cTup, cLst, cFrz, cPeek, cPeekT, cSl, cPart, cNoP, cSm, outs, asBool, asInt, asStr, truD, thaw, ob_some, atom, cOwn, hAppend, gNm, cYes, h, dCmpI, hR]
    · simp [cRun, sSeq, sSet, sRet, sSkip, sDrop, sAsg, sStore, sOwn, sFrz, frzA, sBreak, sCont, cIf, cT, cTr, cVar, cPure, cOp, cUn, cAnd, cOr, cNot, cNotE, cBand, cBor, cACons, cANil, cBlt, cTup, cLst, cFrz, cPeek, cPeekT, cSl, cPart, cNoP, cSm, outs, asBool, asInt, asStr, truD, thaw, ob_some, atom, cOwn, hAppend, gNm, cYes, h, dCmpI, hR]
  have ev : (if 0 ≤ (if c ∈ rest.take t then ((pre.length + ((rest.take t).takeWhile (· != c)).length : Nat) : Int) else -1) then (if c ∈ rest.take t then ((pre.length + ((rest.take t).takeWhile (· != c)).length : Nat) : Int) else -1) else ((pre.length + t : Nat) : Int)) = ((pre.length + ((rest.take t).takeWhile (· != c)).length : Nat) : Int) := by
    by_cases hm : c ∈ rest.take t
    · rw [if_pos hm, if_pos (by omega)]
    · rw [if_neg hm, if_neg (by omega)]
      have e : (rest.take t).takeWhile (· != c) = rest.take t := by
        have := tw_all (a := rest.take t) (p := (· != c)) (fun d hd => by simpa using fun e : d = c => hm (e ▸ hd)) []
        rw [List.append_nil] at this
        rw [this]
        simp
      rw [e, List.length_take, Nat.min_eq_left ht]
  have g := gen _ _ _ _ _ rfl hf
  rw [ev] at g
  exact ⟨_, g⟩
theorem F_first {pre ys post : List Nat} {c : Nat} (hy : ∀ d ∈ ys, d ≠ 34 ∧ d ≠ 92 ∧ d ≠ 10) (hc : c = 34 ∨ c = 92 ∨ c = 10) (hl : (pre ++ (ys ++ c :: post)).length ≤ 400000) :
    c__first_of.F [.im (.str (mk (pre ++ (ys ++ c :: post)))), .im (.int (pre.length : Int))] = some (.int ((pre.length + ys.length : Nat) : Int), [.im (.str (mk (pre ++ (ys ++ c :: post)))), .im (.int (pre.length : Int))]) := by
  generalize hr : ys ++ c :: post = rest at *
  have h0 : bLen [.str (mk (pre ++ rest))] = some (.int ((pre.length + rest.length : Nat) : Int)) := by rw [len_str (by omega), List.length_append]
  obtain ⟨x1, e1⟩ := bF_step (pre := pre) (rest := rest) (t := rest.length) (c := 34) (x4 := .no) (Nat.le_refl _)
  obtain ⟨x2, e2⟩ := bF_step (pre := pre) (rest := rest) (t := ((rest.take rest.length).takeWhile (· != 34)).length) (c := 92) (x4 := x1) (by have := tw_le (· != 34) (rest.take rest.length); have := List.length_take_le rest.length rest; omega)
  have e12 := tw_le (· != 92) (rest.take ((rest.take rest.length).takeWhile (· != 34)).length)
  obtain ⟨x3, e3⟩ := bF_step (pre := pre) (rest := rest) (t := ((rest.take ((rest.take rest.length).takeWhile (· != 34)).length).takeWhile (· != 92)).length) (c := 10) (x4 := x2) (by have := List.length_take_le' ((rest.take rest.length).takeWhile (· != 34)).length rest; omega)
  have fin : (rest.take ((rest.take ((rest.take rest.length).takeWhile (· != 34)).length).takeWhile (· != 92)).length).takeWhile (· != 10) = ys := by
    rw [take_take_tw, take_take_tw, List.take_length]
    have p34 : ∀ d ∈ ys, (d != 34) = true := fun d hd => by simpa using (hy d hd).1
    have p92 : ∀ d ∈ ys, (d != 92) = true := fun d hd => by simpa using (hy d hd).2.1
    have p10 : ∀ d ∈ ys, (d != 10) = true := fun d hd => by simpa using (hy d hd).2.2
    rw [← hr, tw_all p34, tw_all p92, tw_all p10]
    rcases hc with rfl | rfl | rfl
    · simp
    · simp
    · simp
  rw [fin] at e3
  generalize ((rest.take rest.length).takeWhile (· != 34)).length = t1 at *
  generalize ((rest.take t1).takeWhile (· != 92)).length = t2 at *
  unfold c__first_of fnD g__first_of
  have z3 : (3 : Nat) ≤ sizeLine := by decide
  generalize ((pre.length + rest.length : Nat) : Int) = I0 at *
  generalize ((pre.length + t1 : Nat) : Int) = I1 at *
  generalize ((pre.length + t2 : Nat) : Int) = I2 at *
  generalize ((pre.length + ys.length : Nat) : Int) = I3 at *
  generalize ((pre.length : Nat) : Int) = P at *
  generalize mk (pre ++ rest) = T at *
  have loop : forL (gNm 3) bF [.str (mk [34]), .str (mk [92]), .str (mk [10])] [.im (.str T), .im (.int P), .im (.int I0), .no, .no] = some (.nx [.im (.str T), .im (.int P), .im (.int I3), .im (.str (mk [10])), x3]) := by
    simp [forL, gNm, e1, e2, e3]
  unfold bF at loop
  simp [cRun, sSeq, sSet, sRet, sSkip, sDrop, sAsg, sStore, sOwn, sFrz, frzA, sBreak, sCont, cIf, cT, cTr, cVar, cPure, cOp, cUn, cAnd, cOr, cNot, cNotE, cBand, cBor, cACons, cANil, cBlt, cTup, cLst, cFrz, cPeek, cPeekT, cSl, cPart, cNoP, cSm, outs, asBool, asInt, asStr, truD, thaw, ob_some, atom, cOwn, hAppend, gNm, cYes, h0, sFor, cItems, itemsD, o34, o92, o10, z3, loop]
end Law
set_option maxHeartbeats 4000000
namespace Law
open PySem PySem.Spec L2 Pv
/-! ### quoted texts -/
def bU : Ev → Option Out := (sSeq (sSet 3 (cCall c__first_of (gaD (cVar 0) (gaD (cVar 1) gaNil)))) (sSeq (sDrop (cOwn 2 hAppend (cACons (cSl (cVar 0) (cPart (cVar 1)) (cPart (cVar 3))) cANil))) (sSeq (sSet 4 (cSl (cVar 0) (cPart (cVar 3)) (cPart (cOp dAdd (cVar 3) (cPure (.int 1)))))) (sSeq (cIf (cT (cOp dEq (cVar 4) (cPure (.str "\"")))) (sFrz 2 (sRet (cTup (cACons (cSm hJoin (cPure (.str "")) (cACons (cVar 2) cANil)) (cACons (cOp dAdd (cVar 3) (cPure (.int 1))) cANil))))) sSkip) (sSeq (cIf (cT (cOp dNe (cVar 4) (cPure (.str "\\")))) sNever sSkip) (sSeq (sSet 5 (cSl (cVar 0) (cPart (cOp dAdd (cVar 3) (cPure (.int 1)))) (cPart (cOp dAdd (cVar 3) (cPure (.int 2)))))) (sSeq (cIf (cT (cInTab true t_ESCAPES (cVar 5))) sNever sSkip) (sSeq (sDrop (cOwn 2 hAppend (cACons (cIxTab t_ESCAPES (cVar 5)) cANil))) (sSet 1 (cOp dAdd (cVar 3) (cPure (.int 2))))))))))))
theorem bU_end {T x : D} {p q : Int} {acc : List D} {x3 x4 x5 : AV} {z : Str} (hs : acc.length + 2 < sizeLine)
    (h1 : c__first_of.F [.im T, .im (.int p)] = some (.int q, [.im T, .im (.int p)])) (h2 : dSl T (some p) (some q) = some x) (h3 : dSl T (some q) (some (q + 1)) = some (.str (mk [34]))) (h4 : hJoin (mk []) [.list (acc ++ [x])] = some (.str z)) :
    ∃ α', bU [.im T, .im (.int p), .own (.lst acc), x3, x4, x5] = some (.rt (.tuple [.str z, .int (q + 1)]) α') ∧ ∃ a b c d e f, α' = [a, b, c, d, e, f] := by
  have e1 := call2 (c := c__first_of) (fa := cVar 0) (fb := cVar 1) (α := [.im T, .im (.int p), .own (.lst acc), x3, x4, x5]) rfl rfl rfl h1
  have e34 : dEq (.str (mk [34])) (.str (mk [34])) = some (.bool true) := by rw [eq_mk (by decide) (by decide)]; rfl
  have z2 : (2 : Nat) ≤ sizeLine := by decide
  have l1 : acc.length < sizeLine := by omega
  unfold bU
  refine ⟨[.im T, .im (.int p), .im (.list (acc ++ [x])), .im (.int q), .im (.str (mk [34])), x5], ?_, _, _, _, _, _, _, rfl⟩
  simp [cRun, sSeq, sSet, sRet, sSkip, sDrop, sAsg, sStore, sOwn, sFrz, frzA, sBreak, sCont, cIf, cT, cTr, cVar, cPure, cOp, cUn, cAnd, cOr, cNot, cNotE, cBand, cBor, cACons, cANil, cBlt, cTup, cLst, cFrz, cPeek, cPeekT, cSl, cPart, cNoP, cSm, outs, asBool, asInt, asStr, truD, thaw, ob_some, atom, cOwn, hAppend, gNm, cYes, e1, h2, h3, h4, e34, o34, oE, dAdd, dAddI, z2, l1]
theorem bU_esc {T x y : D} {p q : Int} {acc : List D} {x3 x4 x5 : AV} {e : Nat} (hs : acc.length + 2 < sizeLine)
    (h1 : c__first_of.F [.im T, .im (.int p)] = some (.int q, [.im T, .im (.int p)])) (h2 : dSl T (some p) (some q) = some x) (h3 : dSl T (some q) (some (q + 1)) = some (.str (mk [92]))) (h4 : dSl T (some (q + 1)) (some (q + 2)) = some (.str (mk [e]))) (h5 : tabAt t_ESCAPES (mk [e]) = some y) :
    ∃ y3 y4 y5, bU [.im T, .im (.int p), .own (.lst acc), x3, x4, x5] = some (.nx [.im T, .im (.int (q + 2)), .own (.lst (acc ++ [x, y])), y3, y4, y5]) := by
  have e1 := call2 (c := c__first_of) (fa := cVar 0) (fb := cVar 1) (α := [.im T, .im (.int p), .own (.lst acc), x3, x4, x5]) rfl rfl rfl h1
  have e34 : dEq (.str (mk [92])) (.str (mk [34])) = some (.bool false) := by rw [eq_mk (by decide) (by decide)]; rfl
  have e92 : dNe (.str (mk [92])) (.str (mk [92])) = some (.bool false) := by rw [ne_mk (by decide) (by decide)]; rfl
  have l1 : acc.length < sizeLine := by omega
  have l2 : acc.length + 1 < sizeLine := by omega
  unfold bU
  refine ⟨.im (.int q), .im (.str (mk [92])), .im (.str (mk [e])), ?_⟩
  simp [cRun, sSeq, sSet, sRet, sSkip, sDrop, sAsg, sStore, sOwn, sFrz, frzA, sBreak, sCont, cIf, cT, cTr, cVar, cPure, cOp, cUn, cAnd, cOr, cNot, cNotE, cBand, cBor, cACons, cANil, cBlt, cTup, cLst, cFrz, cPeek, cPeekT, cSl, cPart, cNoP, cSm, outs, asBool, asInt, asStr, truD, thaw, ob_some, atom, cOwn, hAppend, gNm, cYes, e1, h2, h3, h4, h5, e34, e92, o34, o92, dAdd, dAddI, l1, l2, cInTab, cIxTab]

theorem while_true (b : Ev → Option Out) (k : Nat) (α : Ev) : whileL (cTr (cPure (.bool true))) b (k + 1) α = (b α).bind fun o => match o with
      | .nx α2 => whileL (cTr (cPure (.bool true))) b k α2
      | .ct α2 => whileL (cTr (cPure (.bool true))) b k α2
      | .bk α2 => some (.nx α2)
      | .rt d α2 => some (.rt d α2) := rfl
theorem clean_split : ∀ xs : List Nat, (∀ d ∈ xs, d ≠ 34 ∧ d ≠ 92 ∧ d ≠ 10) ∨ ∃ ys s r, xs = ys ++ s :: r ∧ (∀ d ∈ ys, d ≠ 34 ∧ d ≠ 92 ∧ d ≠ 10) ∧ (s = 34 ∨ s = 92 ∨ s = 10)
  | [] => .inl (by simp)
  | c :: r => by
    by_cases h : c ≠ 34 ∧ c ≠ 92 ∧ c ≠ 10
    · rcases clean_split r with k | ⟨ys, s, q, e, k1, k2⟩
      · exact .inl fun d hd => (List.mem_cons.mp hd).elim (fun z => z ▸ h) (k d)
      · exact .inr ⟨c :: ys, s, q, by rw [e]; rfl, fun d hd => (List.mem_cons.mp hd).elim (fun z => z ▸ h) (k1 d), k2⟩
    · exact .inr ⟨[], c, r, rfl, by simp, by omega⟩
theorem esc_clean {ys : List Nat} (h : ∀ d ∈ ys, d ≠ 34 ∧ d ≠ 92 ∧ d ≠ 10) : esc ys = ys := by
  induction ys with
  | nil => rfl
  | cons c r ih =>
    have hc := h c List.mem_cons_self
    have := ih fun d hd => h d (List.mem_cons_of_mem _ hd)
    unfold esc at this ⊢
    rw [List.flatMap_cons, this]
    unfold esc1
    simp [hc.1, hc.2.1, hc.2.2]
theorem esc_app (a b : List Nat) : esc (a ++ b) = esc a ++ esc b := by unfold esc; rw [List.flatMap_append]
def sp1 (s : Nat) : Nat := if s = 10 then 110 else s
theorem esc_sp {s : Nat} (h : s = 34 ∨ s = 92 ∨ s = 10) (r : List Nat) : esc (s :: r) = 92 :: sp1 s :: esc r := by
  unfold esc
  rw [List.flatMap_cons]
  rcases h with rfl | rfl | rfl <;> rfl
theorem tab_sp {s : Nat} (h : s = 34 ∨ s = 92 ∨ s = 10) : tabAt t_ESCAPES (mk [sp1 s]) = some (.str (mk [s])) := by
  rcases h with rfl | rfl | rfl <;> rfl
theorem ofNat_add1 (a b : Nat) : ((a + b : Nat) : Int) + 1 = ((a + b + 1 : Nat) : Int) := by omega
theorem unq_loop : ∀ (n : Nat) (xs pre post : List Nat) (done : List (List Nat)) (k : Nat) (x3 x4 x5 : AV), xs.length ≤ n → n < k → (pre ++ (esc xs ++ 34 :: post)).length ≤ 400000 → done.flatten.length + xs.length ≤ 400000 → done.length + 2 * xs.length + 2 < 800000 →
    ∃ α', whileL (cTr (cPure (.bool true))) bU k [.im (.str (mk (pre ++ (esc xs ++ 34 :: post)))), .im (.int (pre.length : Int)), .own (.lst (done.map fun l => .str (mk l))), x3, x4, x5] =
      some (.rt (.tuple [.str (mk (done.flatten ++ xs)), .int ((pre.length + (esc xs).length + 1 : Nat) : Int)]) α') ∧ ∃ a b c d e f, α' = [a, b, c, d, e, f]
  | n, xs, pre, post, done, 0, _, _, _, _, h, _, _, _ => absurd h (by omega)
  | n, xs, pre, post, done, k + 1, x3, x4, x5, hn, hk, hl, hd, hc => by
    have zL : 800000 ≤ sizeLine := by decide
    rcases clean_split xs with hx | ⟨ys, s, r, rfl, hy, hs⟩
    · have ex := esc_clean hx
      rw [ex] at hl ⊢
      have h1 := F_first (pre := pre) (ys := xs) (post := post) (c := 34) hx (.inl rfl) hl
      have h2 := slN (pre := pre) (txt := xs ++ 34 :: post) (i := (pre.length : Int)) (j := ((pre.length + xs.length : Nat) : Int)) rfl rfl rfl (by omega)
      rw [List.take_left' rfl] at h2
      have h3 := sl1 (pre := pre ++ xs) (txt := 34 :: post) (i := ((pre.length + xs.length : Nat) : Int)) (p := pre.length + xs.length) (by rw [List.length_append]) rfl (by rw [List.append_assoc]; omega)
      rw [List.append_assoc] at h3
      have h4 : hJoin (mk []) [.list (done.map (fun l => .str (mk l)) ++ [.str (mk xs)])] = some (.str (mk (done.flatten ++ xs))) := by
        have f1 : (done ++ [xs]).flatten = done.flatten ++ xs := by simp
        have e := hJoin_mk (z := []) (ys := done ++ [xs]) (by
          rw [joinL_nil, f1, List.length_append]
          show _ + 0 ≤ _
          omega)
        rw [List.map_append, joinL_nil, f1] at e
        exact e
      obtain ⟨α', e, ha⟩ := bU_end (acc := done.map fun l => .str (mk l)) (x3 := x3) (x4 := x4) (x5 := x5) (by rw [List.length_map]; omega) h1 h2 h3 h4
      refine ⟨α', ?_, ha⟩
      rw [while_true, e, ob_some]
      rw [ofNat_add1]
    · have hes : esc (ys ++ s :: r) = ys ++ (92 :: sp1 s :: esc r) := by rw [esc_app, esc_clean hy, esc_sp hs]
      have hT : pre ++ (esc (ys ++ s :: r) ++ 34 :: post) = pre ++ (ys ++ 92 :: (sp1 s :: (esc r ++ 34 :: post))) := by rw [hes]; simp
      have hlen : (esc (ys ++ s :: r)).length = ys.length + 2 + (esc r).length := by rw [hes]; simp; omega
      rw [hT] at hl ⊢
      rw [hlen]
      have h1 := F_first (pre := pre) (ys := ys) (post := sp1 s :: (esc r ++ 34 :: post)) (c := 92) hy (.inr (.inl rfl)) hl
      have h2 := slN (pre := pre) (txt := ys ++ 92 :: (sp1 s :: (esc r ++ 34 :: post))) (i := (pre.length : Int)) (j := ((pre.length + ys.length : Nat) : Int)) rfl rfl rfl (by omega)
      rw [List.take_left' rfl] at h2
      have h3 := sl1 (pre := pre ++ ys) (txt := 92 :: (sp1 s :: (esc r ++ 34 :: post))) (i := ((pre.length + ys.length : Nat) : Int)) (p := pre.length + ys.length) (by rw [List.length_append]) rfl (by rw [List.append_assoc]; omega)
      rw [List.append_assoc] at h3
      have h4 := sl1 (pre := pre ++ ys ++ [92]) (txt := sp1 s :: (esc r ++ 34 :: post)) (i := ((pre.length + ys.length : Nat) : Int) + 1) (p := pre.length + ys.length + 1) (by simp; omega) (by omega) (by simp at hl ⊢; omega)
      have e4 : pre ++ ys ++ [92] ++ sp1 s :: (esc r ++ 34 :: post) = pre ++ (ys ++ 92 :: (sp1 s :: (esc r ++ 34 :: post))) := by simp
      rw [e4, Int.add_assoc] at h4
      obtain ⟨y3, y4, y5, e⟩ := bU_esc (acc := done.map fun l => .str (mk l)) (x3 := x3) (x4 := x4) (x5 := x5) (by rw [List.length_map]; omega) h1 h2 h3 h4 (tab_sp hs)
      have hl5 : (ys ++ s :: r).length = ys.length + 1 + r.length := by simp; omega
      obtain ⟨n, rfl⟩ : ∃ m, n = m + 1 := ⟨n - 1, by omega⟩
      have e5 : pre ++ ys ++ [92, sp1 s] ++ (esc r ++ 34 :: post) = pre ++ (ys ++ 92 :: (sp1 s :: (esc r ++ 34 :: post))) := by simp
      have e6 : ((pre.length + ys.length : Nat) : Int) + 2 = ((pre ++ ys ++ [92, sp1 s]).length : Int) := by simp; omega
      have e7 : (done.map (fun l => PyData.str (mk l)) ++ [.str (mk ys), .str (mk [s])]) = (done ++ [ys, [s]]).map fun l => .str (mk l) := by simp
      obtain ⟨α', e8, ha⟩ := unq_loop n r (pre ++ ys ++ [92, sp1 s]) post (done ++ [ys, [s]]) k y3 y4 y5 (by omega) (by omega) (by rw [e5]; exact hl) (by
        have f1 : (done ++ [ys, [s]]).flatten = done.flatten ++ (ys ++ [s]) := by simp
        rw [f1, List.length_append, List.length_append]
        show _ + (_ + 1) + _ ≤ _
        omega) (by rw [List.length_append]; show _ + 2 + _ + _ < _; omega)
      refine ⟨α', ?_, ha⟩
      rw [while_true, e, ob_some, e6, e7]
      rw [e5] at e8
      refine e8.trans ?_
      congr 4
      · congr 2
        simp
      · congr 1
        congr 1
        simp
        omega
end Law
set_option maxHeartbeats 4000000
namespace Law
open PySem PySem.Spec L2 Pv
theorem F_unq {xs pre post : List Nat} (hl : (pre ++ (esc xs ++ 34 :: post)).length ≤ 90000) : c__unquoted.F [.im (.str (mk (pre ++ (esc xs ++ 34 :: post)))), .im (.int (pre.length : Int))] =
    some (.tuple [.str (mk xs), .int ((pre.length + (esc xs).length + 1 : Nat) : Int)], [.im (.str (mk (pre ++ (esc xs ++ 34 :: post)))), .im (.int (pre.length : Int))]) := by
  have hx := esc_ge xs
  have hl2 : xs.length ≤ 90000 := by
    rw [List.length_append, List.length_append] at hl
    omega
  obtain ⟨α', e, a, b, c, d, x, y, rfl⟩ := unq_loop xs.length xs pre post [] big .no .no .no (Nat.le_refl _) (by unfold big; omega) (by omega) (by show 0 + _ ≤ _; omega) (by show 0 + _ + _ < _; omega)
  have e : sWhile (fun _ => big) (cTr (cPure (.bool true))) bU [.im (.str (mk (pre ++ (esc xs ++ 34 :: post)))), .im (.int (pre.length : Int)), .own (.lst []), .no, .no, .no] = _ := e
  unfold bU at e
  have z0 : (0 : Nat) ≤ sizeLine := by decide
  unfold c__unquoted fnD g__unquoted
  simp [cRun, sSeq, sSet, sRet, sSkip, sDrop, sAsg, sStore, sOwn, sFrz, frzA, sBreak, sCont, cIf, cT, cTr, cVar, cPure, cOp, cUn, cAnd, cOr, cNot, cNotE, cBand, cBor, cACons, cANil, cBlt, cTup, cLst, cFrz, cPeek, cPeekT, cSl, cPart, cNoP, cSm, outs, asBool, asInt, asStr, truD, thaw, ob_some, atom, cOwn, hAppend, gNm, cYes, e, z0]
/-! ### tuples -/
def bM (cv : Cal) : Ev → Option Out := (sSeq (sAsg (cCall cv (gaD (cVar 0) (gaD (cVar 1) (gaD (cVar 2) gaNil)))) (gTp 2 (gsCons (gNm 4) (gsCons (gNm 1) gsNil)))) (sSeq (sDrop (cOwn 3 hAppend (cACons (cVar 4) cANil))) (sSeq (sSet 5 (cSl (cVar 0) (cPart (cVar 1)) (cPart (cOp dAdd (cVar 1) (cPure (.int 1)))))) (sSeq (cIf (cT (cOp dEq (cVar 5) (cPure (.str ")")))) (sFrz 3 (sRet (cTup (cACons (cBlt bTup (cACons (cVar 3) cANil)) (cACons (cOp dAdd (cVar 1) (cPure (.int 1))) cANil))))) sSkip) (sSeq (cIf (cT (cOp dNe (cVar 5) (cPure (.str " ")))) sNever sSkip) (sAug 1 (fun a b => (dAddI a b).or (dAddS a b)) (cPure (.int 1))))))))
theorem bM_end {cv : Cal} {T d : D} {p q dep : Int} {acc : List D} {x4 x5 : AV} (hm : cv.m = 3) (hs : acc.length < sizeLine) (h1 : cv.F [.im T, .im (.int p), .im (.int dep)] = some (.tuple [d, .int q], [.im T, .im (.int p), .im (.int dep)]))
    (h3 : dSl T (some q) (some (q + 1)) = some (.str (mk [41]))) : ∃ α', bM cv [.im T, .im (.int p), .im (.int dep), .own (.lst acc), x4, x5] = some (.rt (.tuple [.tuple (acc ++ [d]), .int (q + 1)]) α') ∧ ∃ a b c d e f, α' = [a, b, c, d, e, f] := by
  have e1 := call3 (c := cv) (fa := cVar 0) (fb := cVar 1) (fc := cVar 2) (α := [.im T, .im (.int p), .im (.int dep), .own (.lst acc), x4, x5]) hm rfl rfl rfl h1
  have e41 : dEq (.str (mk [41])) (.str (mk [41])) = some (.bool true) := by rw [eq_mk (by decide) (by decide)]; rfl
  have z2 : (2 : Nat) ≤ sizeLine := by decide
  unfold bM
  refine ⟨[.im T, .im (.int q), .im (.int dep), .im (.list (acc ++ [d])), .im d, .im (.str (mk [41]))], ?_, _, _, _, _, _, _, rfl⟩
  simp [cRun, sSeq, sSet, sRet, sSkip, sDrop, sAsg, sStore, sOwn, sFrz, frzA, sBreak, sCont, cIf, cT, cTr, cVar, cPure, cOp, cUn, cAnd, cOr, cNot, cNotE, cBand, cBor, cACons, cANil, cBlt, cTup, cLst, cFrz, cPeek, cPeekT, cSl, cPart, cNoP, cSm, outs, asBool, asInt, asStr, truD, thaw, ob_some, atom, cOwn, hAppend, gNm, cYes, e1, gTp, gsCons, gsNil, h3, e41, o41, bTup, dAdd, dAddI, z2, hs]
theorem bM_more {cv : Cal} {T d : D} {p q dep : Int} {acc : List D} {x4 x5 : AV} (hm : cv.m = 3) (hs : acc.length < sizeLine) (h1 : cv.F [.im T, .im (.int p), .im (.int dep)] = some (.tuple [d, .int q], [.im T, .im (.int p), .im (.int dep)]))
    (h3 : dSl T (some q) (some (q + 1)) = some (.str (mk [32]))) : ∃ y4 y5, bM cv [.im T, .im (.int p), .im (.int dep), .own (.lst acc), x4, x5] = some (.nx [.im T, .im (.int (q + 1)), .im (.int dep), .own (.lst (acc ++ [d])), y4, y5]) := by
  have e1 := call3 (c := cv) (fa := cVar 0) (fb := cVar 1) (fc := cVar 2) (α := [.im T, .im (.int p), .im (.int dep), .own (.lst acc), x4, x5]) hm rfl rfl rfl h1
  have e41 : dEq (.str (mk [32])) (.str (mk [41])) = some (.bool false) := by rw [eq_mk (by decide) (by decide)]; rfl
  have e32 : dNe (.str (mk [32])) (.str (mk [32])) = some (.bool false) := by rw [ne_mk (by decide) (by decide)]; rfl
  unfold bM
  refine ⟨.im d, .im (.str (mk [32])), ?_⟩
  simp [cRun, sSeq, sSet, sRet, sSkip, sDrop, sAsg, sStore, sOwn, sFrz, frzA, sBreak, sCont, cIf, cT, cTr, cVar, cPure, cOp, cUn, cAnd, cOr, cNot, cNotE, cBand, cBor, cACons, cANil, cBlt, cTup, cLst, cFrz, cPeek, cPeekT, cSl, cPart, cNoP, cSm, outs, asBool, asInt, asStr, truD, thaw, ob_some, atom, cOwn, hAppend, gNm, cYes, e1, gTp, gsCons, gsNil, h3, e41, e32, o41, o32, sAug, dAdd, dAddI, hs]
theorem head_dig {i : Int} : ∃ c r, intL i = c :: r ∧ (c = 45 ∨ (48 ≤ c ∧ c ≤ 57)) := by
  unfold intL
  split
  · exact ⟨_, _, rfl, .inl rfl⟩
  · have hne := TL.numL_ne i.natAbs
    cases h : TL.numL i.natAbs with
    | nil => exact (hne h).elim
    | cons c r => exact ⟨c, r, rfl, .inr (numL_dig i.natAbs c (by rw [h]; exact List.mem_cons_self))⟩
theorem shw_head {n : Nat} {d : D} (h : Pl n d) : ∃ c r, shw n d = c :: r ∧ c < 128 ∧ c ≠ 41 ∧ c ≠ 32 := by
  cases n with
  | zero => exact h.elim
  | succ n =>
    cases d with
    | none => exact ⟨78, [], rfl, by decide⟩
    | bool b => cases b; · exact ⟨70, [], rfl, by decide⟩
                · exact ⟨84, [], rfl, by decide⟩
    | int i =>
      obtain ⟨c, r, e, k⟩ := head_dig (i := i)
      exact ⟨c, r, e, by omega⟩
    | str x => exact ⟨34, _, rfl, by decide⟩
    | tuple ds => exact ⟨40, _, rfl, by decide⟩
    | list _ => exact h.elim
    | dict _ => exact h.elim
theorem noDig_41 (l : List Nat) : NoDig (41 :: l) := fun c hc => by cases hc; omega
theorem noDig_32 (l : List Nat) : NoDig (32 :: l) := fun c hc => by cases hc; omega
/-- what value does at depth n -/
def ValOk (n : Nat) (dep : Nat) (cv : Cal) : Prop := cv.m = 3 ∧ ∀ (d : D) (pre post : List Nat), Pl n d → NoDig post → (∀ c ∈ post, c < 128) → (pre ++ (shw n d ++ post)).length ≤ 90000 →
  cv.F [.im (.str (mk (pre ++ (shw n d ++ post)))), .im (.int (pre.length : Int)), .im (.int (dep : Int))] = some (.tuple [d, .int ((pre.length + (shw n d).length : Nat) : Int)], [.im (.str (mk (pre ++ (shw n d ++ post)))), .im (.int (pre.length : Int)), .im (.int (dep : Int))])
theorem mem_loop {n dep : Nat} {cv : Cal} (hv : ValOk n dep cv) : ∀ (ds : List D) (d : D) (pre post : List Nat) (acc : List D) (k : Nat) (x4 x5 : AV), ds.length < k → acc.length + ds.length + 1 < 400000 → (∀ x ∈ d :: ds, Pl n x) → (∀ c ∈ post, c < 128) →
    (pre ++ (TL.joinL [32] ((d :: ds).map (shw n)) ++ 41 :: post)).length ≤ 90000 → (∀ x ∈ d :: ds, ∀ c ∈ shw n x, c < 128) →
    ∃ α', whileL (cTr (cPure (.bool true))) (bM cv) k [.im (.str (mk (pre ++ (TL.joinL [32] ((d :: ds).map (shw n)) ++ 41 :: post)))), .im (.int (pre.length : Int)), .im (.int (dep : Int)), .own (.lst acc), x4, x5] =
      some (.rt (.tuple [.tuple (acc ++ d :: ds), .int ((pre.length + (TL.joinL [32] ((d :: ds).map (shw n))).length + 1 : Nat) : Int)]) α') ∧ ∃ a b c d e f, α' = [a, b, c, d, e, f]
  | _, _, _, _, _, 0, _, _, h, _, _, _, _, _ => absurd h (by omega)
  | [], d, pre, post, acc, k + 1, x4, x5, hk, hc, hp, hA, hl, hB => by
    have zL : 400000 ≤ sizeLine := by decide
    have ej : TL.joinL [32] (([d] : List D).map (shw n)) = shw n d := rfl
    rw [ej] at hl ⊢
    have h1 := hv.2 d pre (41 :: post) (hp d List.mem_cons_self) (noDig_41 _) (fun c hc => (List.mem_cons.mp hc).elim (fun e => by omega) (hA c)) hl
    have h3 := sl1 (pre := pre ++ shw n d) (txt := 41 :: post) (i := ((pre.length + (shw n d).length : Nat) : Int)) (p := pre.length + (shw n d).length) (by rw [List.length_append]) rfl (by rw [List.append_assoc]; omega)
    rw [List.append_assoc] at h3
    obtain ⟨α', e, ha⟩ := bM_end (acc := acc) (x4 := x4) (x5 := x5) hv.1 (by omega) h1 h3
    refine ⟨α', ?_, ha⟩
    rw [while_true, e, ob_some, ofNat_add1]
  | d2 :: ds, d, pre, post, acc, k + 1, x4, x5, hk, hc, hp, hA, hl, hB => by
    have zL : 400000 ≤ sizeLine := by decide
    have ej : TL.joinL [32] ((d :: d2 :: ds).map (shw n)) = shw n d ++ (32 :: TL.joinL [32] ((d2 :: ds).map (shw n))) := rfl
    rw [ej] at hl ⊢
    have eT : pre ++ (shw n d ++ 32 :: TL.joinL [32] ((d2 :: ds).map (shw n)) ++ 41 :: post) = pre ++ (shw n d ++ 32 :: (TL.joinL [32] ((d2 :: ds).map (shw n)) ++ 41 :: post)) := by simp
    rw [eT] at hl ⊢
    have hk1 : ds.length < k := by
      have : (d2 :: ds).length = ds.length + 1 := rfl
      omega
    have hc1 : (d2 :: ds).length = ds.length + 1 := rfl
    have hJ : ∀ c ∈ TL.joinL [32] ((d2 :: ds).map (shw n)), c < 128 := by
      have : ∀ (ys : List (List Nat)), (∀ y ∈ ys, ∀ c ∈ y, c < 128) → ∀ c ∈ TL.joinL [32] ys, c < 128 := fun ys => by
        induction ys with
        | nil => intro _ c hc; cases hc
        | cons a r ih =>
          intro h c hc
          cases r with
          | nil => exact h a List.mem_cons_self c hc
          | cons b r =>
            rw [joinL_cons [32] a (by simp)] at hc
            rcases List.mem_append.mp hc with hc | hc
            · exact h a List.mem_cons_self c hc
            · rcases List.mem_append.mp hc with hc | hc
              · rw [List.mem_singleton.mp hc]; decide
              · exact ih (fun y hy => h y (List.mem_cons_of_mem _ hy)) c hc
      refine this _ fun y hy => ?_
      obtain ⟨x, hx, rfl⟩ := List.mem_map.mp hy
      exact hB x (List.mem_cons_of_mem _ hx)
    have h1 := hv.2 d pre (32 :: (TL.joinL [32] ((d2 :: ds).map (shw n)) ++ 41 :: post)) (hp d List.mem_cons_self) (noDig_32 _) (fun c hc => (List.mem_cons.mp hc).elim (fun e => by omega) fun hc => (List.mem_append.mp hc).elim (hJ c) fun hc => (List.mem_cons.mp hc).elim (fun e => by omega) (hA c)) hl
    have h3 := sl1 (pre := pre ++ shw n d) (txt := 32 :: (TL.joinL [32] ((d2 :: ds).map (shw n)) ++ 41 :: post)) (i := ((pre.length + (shw n d).length : Nat) : Int)) (p := pre.length + (shw n d).length) (by rw [List.length_append]) rfl (by rw [List.append_assoc]; omega)
    rw [List.append_assoc] at h3
    obtain ⟨y4, y5, e⟩ := bM_more (acc := acc) (x4 := x4) (x5 := x5) hv.1 (by omega) h1 h3
    have e5 : pre ++ shw n d ++ [32] ++ (TL.joinL [32] ((d2 :: ds).map (shw n)) ++ 41 :: post) = pre ++ (shw n d ++ 32 :: (TL.joinL [32] ((d2 :: ds).map (shw n)) ++ 41 :: post)) := by simp
    obtain ⟨α', e8, ha⟩ := mem_loop hv ds d2 (pre ++ shw n d ++ [32]) post (acc ++ [d]) k y4 y5 hk1 (by rw [List.length_append]; show _ + 1 + _ + 1 < _; omega) (fun x hx => hp x (List.mem_cons_of_mem _ hx)) hA (by rw [e5]; exact hl) fun x hx => hB x (List.mem_cons_of_mem _ hx)
    refine ⟨α', ?_, ha⟩
    have e6 : ((pre.length + (shw n d).length : Nat) : Int) + 1 = ((pre ++ shw n d ++ [32]).length : Int) := by simp; omega
    rw [while_true, e, ob_some, e6]
    rw [e5] at e8
    have a1 : acc ++ [d] ++ d2 :: ds = acc ++ d :: d2 :: ds := by simp
    have a2 : (pre ++ shw n d ++ [32]).length + (TL.joinL [32] ((d2 :: ds).map (shw n))).length + 1 = pre.length + (shw n d ++ 32 :: TL.joinL [32] ((d2 :: ds).map (shw n))).length + 1 := by
      simp only [List.length_append, List.length_cons, List.length_nil]
      omega
    rw [a1, a2] at e8
    exact e8
theorem joinL_128 : ∀ (ys : List (List Nat)), (∀ y ∈ ys, ∀ c ∈ y, c < 128) → ∀ c ∈ TL.joinL [32] ys, c < 128 := fun ys => by
  induction ys with
  | nil => intro _ c hc; cases hc
  | cons a r ih =>
    intro h c hc
    cases r with
    | nil => exact h a List.mem_cons_self c hc
    | cons b r =>
      rw [joinL_cons [32] a (by simp)] at hc
      rcases List.mem_append.mp hc with hc | hc
      · exact h a List.mem_cons_self c hc
      · rcases List.mem_append.mp hc with hc | hc
        · rw [List.mem_singleton.mp hc]; decide
        · exact ih (fun y hy => h y (List.mem_cons_of_mem _ hy)) c hc
theorem esc_128 {l : List Nat} (h : ∀ c ∈ l, c < 128) : ∀ c ∈ esc l, c < 128 := fun c hc => by
  unfold esc at hc
  obtain ⟨d, hd, hc⟩ := List.mem_flatMap.mp hc
  have := h d hd
  unfold esc1 at hc
  split at hc
  · have : c = 92 := by simpa using hc
    omega
  · split at hc
    · have : c = 92 ∨ c = 34 := by simpa using hc
      omega
    · split at hc
      · have : c = 92 ∨ c = 110 := by simpa using hc
        omega
      · have : c = d := by simpa using hc
        omega
theorem intL_128 (i : Int) : ∀ c ∈ intL i, c < 128 := fun c hc => by
  unfold intL at hc
  split at hc
  · rcases List.mem_cons.mp hc with e | hc
    · omega
    · have := numL_dig _ c hc; omega
  · have := numL_dig _ c hc; omega
theorem shw_128 (n : Nat) : ∀ d : D, Pl n d → ∀ c ∈ shw n d, c < 128 := by
  induction n with
  | zero => exact fun _ h => h.elim
  | succ n ih =>
    intro d h c hc
    cases d with
    | none => rw [show c = 78 by simpa [shw] using hc]; decide
    | bool b =>
      cases b
      · rw [show c = 70 by simpa [shw] using hc]; decide
      · rw [show c = 84 by simpa [shw] using hc]; decide
    | int i => exact intL_128 i c hc
    | str x =>
      have hc : c ∈ 34 :: (esc (sg x) ++ [34]) := hc
      rcases List.mem_cons.mp hc with e | hc
      · omega
      · rcases List.mem_append.mp hc with hc | hc
        · exact esc_128 h c hc
        · rw [List.mem_singleton.mp hc]; decide
    | tuple ds =>
      have hc : c ∈ 40 :: (TL.joinL [32] (ds.map (shw n)) ++ [41]) := hc
      rcases List.mem_cons.mp hc with e | hc
      · omega
      · rcases List.mem_append.mp hc with hc | hc
        · refine joinL_128 _ (fun y hy => ?_) c hc
          obtain ⟨x, hx, rfl⟩ := List.mem_map.mp hy
          exact ih x (h.2 x hx)
        · rw [List.mem_singleton.mp hc]; decide
    | list _ => exact h.elim
    | dict _ => exact h.elim
theorem addI (i j : Int) : dAdd (.int i) (.int j) = some (.int (i + j)) := rfl
theorem F_members {n dep m : Nat} (hv : ValOk n dep (c__value m)) {ds : List D} {pre post : List Nat} (hp : ∀ x ∈ ds, Pl n x) (hA : ∀ c ∈ post, c < 128) (hl : (pre ++ (TL.joinL [32] (ds.map (shw n)) ++ 41 :: post)).length ≤ 90000) :
    (c__members (m + 1)).F [.im (.str (mk (pre ++ (TL.joinL [32] (ds.map (shw n)) ++ 41 :: post)))), .im (.int (pre.length : Int)), .im (.int (dep : Int))] =
      some (.tuple [.tuple ds, .int ((pre.length + (TL.joinL [32] (ds.map (shw n))).length + 1 : Nat) : Int)], [.im (.str (mk (pre ++ (TL.joinL [32] (ds.map (shw n)) ++ 41 :: post)))), .im (.int (pre.length : Int)), .im (.int (dep : Int))]) := by
  show fnD 3 (g__members (c__value m) (c__members m)) _ = _
  unfold fnD g__members
  have z0 : (0 : Nat) ≤ sizeLine := by decide
  have z2 : (2 : Nat) ≤ sizeLine := by decide
  cases ds with
  | nil =>
    have hl : (pre ++ 41 :: post).length ≤ 90000 := hl
    show _ = some (PyData.tuple [.tuple [], .int ((pre.length + 0 + 1 : Nat) : Int)], [AV.im (.str (mk (pre ++ 41 :: post))), AV.im (.int (pre.length : Int)), AV.im (.int (dep : Int))])
    have h1 := sl1 (pre := pre) (txt := 41 :: post) (i := (pre.length : Int)) rfl rfl (by omega)
    have t1 : (41 :: post).take 1 = [41] := rfl
    rw [t1] at h1
    have e41 : dEq (.str (mk [41])) (.str (mk [41])) = some (.bool true) := by rw [eq_mk (by decide) (by decide)]; rfl
    have hT : TL.joinL [32] (([] : List D).map (shw n)) ++ 41 :: post = 41 :: post := rfl
    simp only [hT]
    generalize mk (pre ++ 41 :: post) = T at *
    simp [cRun, sSeq, sSet, sRet, sSkip, sDrop, sAsg, sStore, sOwn, sFrz, frzA, sBreak, sCont, cIf, cT, cTr, cVar, cPure, cOp, cUn, cAnd, cOr, cNot, cNotE, cBand, cBor, cACons, cANil, cBlt, cTup, cLst, cFrz, cPeek, cPeekT, cSl, cPart, cNoP, cSm, outs, asBool, asInt, asStr, truD, thaw, ob_some, atom, cOwn, hAppend, gNm, cYes, h1, e41, o41, addI, z0, z2]
  | cons d r =>
    obtain ⟨c, q, eh, hc, h41, _⟩ := shw_head (hp d List.mem_cons_self)
    have hhead : ∃ q', TL.joinL [32] ((d :: r).map (shw n)) ++ 41 :: post = c :: q' := by
      cases r with
      | nil => exact ⟨q ++ 41 :: post, by show shw n d ++ _ = _; rw [eh]; rfl⟩
      | cons d2 r => exact ⟨_, by show (shw n d ++ (32 :: TL.joinL [32] ((d2 :: r).map (shw n)))) ++ 41 :: post = _; rw [eh]; rfl⟩
    obtain ⟨q', hq⟩ := hhead
    have h1 := sl1 (pre := pre) (txt := TL.joinL [32] ((d :: r).map (shw n)) ++ 41 :: post) (i := (pre.length : Int)) rfl rfl (by omega)
    have t1 : (TL.joinL [32] ((d :: r).map (shw n)) ++ 41 :: post).take 1 = [c] := by rw [hq]; rfl
    rw [t1] at h1
    have e41 : dEq (.str (mk [c])) (.str (mk [41])) = some (.bool false) := by
      rw [eq_mk (by simpa using hc) (by decide), decide_eq_false]
      intro e
      exact h41 (by simpa using e)
    have hr : r.length ≤ 90000 := by
      have := joinL_len [32] ((d :: r).map (shw n))
      simp only [List.length_map, List.length_cons, List.length_nil] at this
      rw [List.length_append, List.length_append] at hl
      omega
    obtain ⟨α', e, a, b, c', d', x, y, rfl⟩ := mem_loop hv r d pre post [] big .no .no (by unfold big; omega) (by show 0 + _ + 1 < _; omega) hp hA hl fun x hx => shw_128 n x (hp x hx)
    have e : sWhile (fun _ => big) (cTr (cPure (.bool true))) (bM (c__value m)) [.im (.str (mk (pre ++ (TL.joinL [32] ((d :: r).map (shw n)) ++ 41 :: post)))), .im (.int (pre.length : Int)), .im (.int (dep : Int)), .own (.lst []), .no, .no] = _ := e
    unfold bM at e
    simp only [o41] at e
    generalize mk (pre ++ (TL.joinL [32] ((d :: r).map (shw n)) ++ 41 :: post)) = T at *
    simp [cRun, sSeq, sSet, sRet, sSkip, sDrop, sAsg, sStore, sOwn, sFrz, frzA, sBreak, sCont, cIf, cT, cTr, cVar, cPure, cOp, cUn, cAnd, cOr, cNot, cNotE, cBand, cBor, cACons, cANil, cBlt, cTup, cLst, cFrz, cPeek, cPeekT, cSl, cPart, cNoP, cSm, outs, asBool, asInt, asStr, truD, thaw, ob_some, atom, cOwn, hAppend, gNm, cYes, h1, e41, o41, addI, e, z0]

/-! ### values -/
theorem tab_none {c : Nat} (h : c = 34 ∨ c = 40 ∨ c = 45 ∨ (48 ≤ c ∧ c ≤ 57)) : tabAt t_WORDS (mk [c]) = none := by
  have k : c = 34 ∨ c = 40 ∨ c = 45 ∨ c = 48 ∨ c = 49 ∨ c = 50 ∨ c = 51 ∨ c = 52 ∨ c = 53 ∨ c = 54 ∨ c = 55 ∨ c = 56 ∨ c = 57 := by omega
  rcases k with rfl | rfl | rfl | rfl | rfl | rfl | rfl | rfl | rfl | rfl | rfl | rfl | rfl <;> rfl
theorem eq_one {a b : Nat} (ha : a < 128) (hb : b < 128) : dEq (.str (mk [a])) (.str (mk [b])) = some (.bool (decide (a = b))) := by
  rw [eq_mk (by simpa using ha) (by simpa using hb)]
  congr 2
  simp
theorem val_succ (m : Nat) : (c__value (m + 1)).F = fnD 1 (g__value (c__value m) (c__members m)) := rfl
/-- a word -/
theorem val_word {cv cm : Cal} {T x : D} {p dep : Int} {c : Nat} (h1 : dSl T (some p) (some (p + 1)) = some (.str (mk [c]))) (ht : tabAt t_WORDS (mk [c]) = some x) : fnD 1 (g__value cv cm) [.im T, .im (.int p), .im (.int dep)] = some (.tuple [x, .int (p + 1)], [.im T, .im (.int p), .im (.int dep)]) := by
  have z2 : (2 : Nat) ≤ sizeLine := by decide
  unfold fnD g__value
  simp [cRun, sSeq, sSet, sRet, sSkip, sDrop, sAsg, sStore, sOwn, sFrz, frzA, sBreak, sCont, cIf, cT, cTr, cVar, cPure, cOp, cUn, cAnd, cOr, cNot, cNotE, cBand, cBor, cACons, cANil, cBlt, cTup, cLst, cFrz, cPeek, cPeekT, cSl, cPart, cNoP, cSm, outs, asBool, asInt, asStr, truD, thaw, ob_some, atom, cOwn, hAppend, gNm, cYes, h1, ht, cInTab, cIxTab, addI, z2]
/-- an integer -/
theorem val_int {cv cm : Cal} {T r : D} {p dep : Int} {c : Nat} (hc : c < 128) (h1 : dSl T (some p) (some (p + 1)) = some (.str (mk [c]))) (ht : tabAt t_WORDS (mk [c]) = none) (h34 : c ≠ 34) (h40 : c ≠ 40)
    (hi : c__integer.F [.im T, .im (.int p)] = some (r, [.im T, .im (.int p)])) : fnD 1 (g__value cv cm) [.im T, .im (.int p), .im (.int dep)] = some (r, [.im T, .im (.int p), .im (.int dep)]) := by
  have e34 : dEq (.str (mk [c])) (.str (mk [34])) = some (.bool false) := by rw [eq_one hc (by decide), decide_eq_false h34]
  have e40 : dEq (.str (mk [c])) (.str (mk [40])) = some (.bool false) := by rw [eq_one hc (by decide), decide_eq_false h40]
  have e := call2 (c := c__integer) (fa := cVar 0) (fb := cVar 1) (α := [.im T, .im (.int p), .im (.int dep), .im (.str (mk [c]))]) rfl rfl rfl hi
  unfold fnD g__value
  simp [cRun, sSeq, sSet, sRet, sSkip, sDrop, sAsg, sStore, sOwn, sFrz, frzA, sBreak, sCont, cIf, cT, cTr, cVar, cPure, cOp, cUn, cAnd, cOr, cNot, cNotE, cBand, cBor, cACons, cANil, cBlt, cTup, cLst, cFrz, cPeek, cPeekT, cSl, cPart, cNoP, cSm, outs, asBool, asInt, asStr, truD, thaw, ob_some, atom, cOwn, hAppend, gNm, cYes, h1, ht, cInTab, cIxTab, addI, o34, o40, e34, e40, e]
theorem val_str {cv cm : Cal} {T r : D} {p dep : Int} (h1 : dSl T (some p) (some (p + 1)) = some (.str (mk [34])))
    (hi : c__unquoted.F [.im T, .im (.int (p + 1))] = some (r, [.im T, .im (.int (p + 1))])) : fnD 1 (g__value cv cm) [.im T, .im (.int p), .im (.int dep)] = some (r, [.im T, .im (.int p), .im (.int dep)]) := by
  have e34 : dEq (.str (mk [34])) (.str (mk [34])) = some (.bool true) := by rw [eq_one (by decide) (by decide)]; rfl
  have ht := tab_none (c := 34) (.inl rfl)
  have e := call2 (c := c__unquoted) (fa := cVar 0) (fb := cOp dAdd (cVar 1) (cPure (.int 1))) (α := [.im T, .im (.int p), .im (.int dep), .im (.str (mk [34]))]) (α1 := [.im T, .im (.int p), .im (.int dep), .im (.str (mk [34]))]) (α2 := [.im T, .im (.int p), .im (.int dep), .im (.str (mk [34]))]) rfl rfl rfl hi
  unfold fnD g__value
  simp [cRun, sSeq, sSet, sRet, sSkip, sDrop, sAsg, sStore, sOwn, sFrz, frzA, sBreak, sCont, cIf, cT, cTr, cVar, cPure, cOp, cUn, cAnd, cOr, cNot, cNotE, cBand, cBor, cACons, cANil, cBlt, cTup, cLst, cFrz, cPeek, cPeekT, cSl, cPart, cNoP, cSm, outs, asBool, asInt, asStr, truD, thaw, ob_some, atom, cOwn, hAppend, gNm, cYes, h1, ht, cInTab, cIxTab, addI, o34, e34, e]
theorem val_tup {cv cm : Cal} {T r : D} {p : Int} {dep : Nat} (hm : cm.m = 3) (hd : dep < 40) (h1 : dSl T (some p) (some (p + 1)) = some (.str (mk [40])))
    (hi : cm.F [.im T, .im (.int (p + 1)), .im (.int ((dep + 1 : Nat) : Int))] = some (r, [.im T, .im (.int (p + 1)), .im (.int ((dep + 1 : Nat) : Int))])) : fnD 1 (g__value cv cm) [.im T, .im (.int p), .im (.int (dep : Int))] = some (r, [.im T, .im (.int p), .im (.int (dep : Int))]) := by
  have e34 : dEq (.str (mk [40])) (.str (mk [34])) = some (.bool false) := by rw [eq_one (by decide) (by decide)]; rfl
  have e40 : dEq (.str (mk [40])) (.str (mk [40])) = some (.bool true) := by rw [eq_one (by decide) (by decide)]; rfl
  have ht := tab_none (c := 40) (.inr (.inl rfl))
  have lt : dLt (.int (dep : Int)) (.int 40) = some (.bool true) := by
    show some (PyData.bool (decide ((dep : Int) < 40))) = _
    rw [decide_eq_true (by omega)]
  have e := call3 (c := cm) (fa := cVar 0) (fb := cOp dAdd (cVar 1) (cPure (.int 1))) (fc := cOp dAdd (cVar 2) (cPure (.int 1))) (α := [.im T, .im (.int p), .im (.int (dep : Int)), .im (.str (mk [40]))]) (α1 := [.im T, .im (.int p), .im (.int (dep : Int)), .im (.str (mk [40]))]) (α2 := [.im T, .im (.int p), .im (.int (dep : Int)), .im (.str (mk [40]))]) (α3 := [.im T, .im (.int p), .im (.int (dep : Int)), .im (.str (mk [40]))]) hm rfl rfl rfl hi
  unfold fnD g__value
  simp [cRun, sSeq, sSet, sRet, sSkip, sDrop, sAsg, sStore, sOwn, sFrz, frzA, sBreak, sCont, cIf, cT, cTr, cVar, cPure, cOp, cUn, cAnd, cOr, cNot, cNotE, cBand, cBor, cACons, cANil, cBlt, cTup, cLst, cFrz, cPeek, cPeekT, cSl, cPart, cNoP, cSm, outs, asBool, asInt, asStr, truD, thaw, ob_some, atom, cOwn, hAppend, gNm, cYes, h1, ht, cInTab, cIxTab, addI, o34, o40, e34, e40, lt, e]
theorem members_m (m : Nat) : (c__members m).m = 3 := by cases m <;> rfl
theorem value_m (m : Nat) : (c__value m).m = 3 := by cases m <;> rfl
theorem val_ok (n : Nat) : ∀ (m dep : Nat), 2 * n ≤ m → dep + n ≤ 41 → ValOk n dep (c__value m) := by
  induction n with
  | zero => exact fun m dep _ _ => ⟨value_m m, fun d pre post h => h.elim⟩
  | succ n ih =>
    intro m dep hm hdep
    refine ⟨value_m m, fun d pre post h hN hA hl => ?_⟩
    obtain ⟨m, rfl⟩ : ∃ k, m = k + 1 := ⟨m - 1, by omega⟩
    rw [val_succ]
    obtain ⟨c, q, eh, hc, _, _⟩ := shw_head h
    have h1 := sl1 (pre := pre) (txt := shw (n + 1) d ++ post) (i := (pre.length : Int)) rfl rfl (by omega)
    have t1 : (shw (n + 1) d ++ post).take 1 = [c] := by rw [eh]; rfl
    rw [t1] at h1
    cases d with
    | none =>
      have ec : c = 78 := by cases eh; rfl
      subst ec
      exact val_word h1 rfl
    | bool b =>
      cases b
      · have ec : c = 70 := by cases eh; rfl
        subst ec
        exact val_word h1 rfl
      · have ec : c = 84 := by cases eh; rfl
        subst ec
        exact val_word h1 rfl
    | int i =>
      have eh : intL i = c :: q := eh
      have hk : c = 45 ∨ (48 ≤ c ∧ c ≤ 57) := by
        obtain ⟨c', r', e', k⟩ := head_dig (i := i)
        rw [eh] at e'
        cases e'
        exact k
      have hl : (pre ++ (intL i ++ post)).length ≤ 90000 := hl
      exact val_int hc h1 (tab_none (by omega)) (by omega) (by omega) (F_int h hN hA (by omega))
    | str x =>
      have ec : c = 34 := by cases eh; rfl
      subst ec
      have eT : pre ++ (shw (n + 1) (.str x) ++ post) = (pre ++ [34]) ++ (esc (sg x) ++ 34 :: post) := by show pre ++ ((34 :: (esc (sg x) ++ [34])) ++ post) = _; simp
      have eq1 : ((pre.length : Int) + 1) = ((pre ++ [34]).length : Int) := by simp
      have hu := F_unq (xs := sg x) (pre := pre ++ [34]) (post := post) (by rw [← eT]; exact hl)
      rw [← eT, ← eq1, mk_sg] at hu
      have := val_str (cv := c__value m) (cm := c__members m) (dep := (dep : Int)) h1 hu
      rw [this]
      congr 5
      refine congrArg PyData.int ?_
      show (((pre ++ [34]).length + (esc (sg x)).length + 1 : Nat) : Int) = ((pre.length + (34 :: (esc (sg x) ++ [34])).length : Nat) : Int)
      simp only [List.length_append, List.length_cons, List.length_nil]
      omega
    | tuple ds =>
      have ec : c = 40 := by cases eh; rfl
      subst ec
      have h : 0 < n ∧ ∀ d ∈ ds, Pl n d := h
      obtain ⟨m, rfl⟩ : ∃ k, m = k + 1 := ⟨m - 1, by omega⟩
      have eT : pre ++ (shw (n + 1) (.tuple ds) ++ post) = (pre ++ [40]) ++ (TL.joinL [32] (ds.map (shw n)) ++ 41 :: post) := by show pre ++ ((40 :: (TL.joinL [32] (ds.map (shw n)) ++ [41])) ++ post) = _; simp
      have eq1 : ((pre.length : Int) + 1) = ((pre ++ [40]).length : Int) := by simp
      have hu := F_members (n := n) (dep := dep + 1) (m := m) (ih m (dep + 1) (by omega) (by omega)) (ds := ds) (pre := pre ++ [40]) (post := post) h.2 hA (by rw [← eT]; exact hl)
      rw [← eT, ← eq1] at hu
      have := val_tup (cv := c__value (m + 1)) (cm := c__members (m + 1)) (members_m _) (by omega) h1 hu
      rw [this]
      congr 5
      refine congrArg PyData.int ?_
      show (((pre ++ [40]).length + (TL.joinL [32] (ds.map (shw n))).length + 1 : Nat) : Int) = ((pre.length + (40 :: (TL.joinL [32] (ds.map (shw n)) ++ [41])).length : Nat) : Int)
      simp only [List.length_append, List.length_cons, List.length_nil]
      omega
    | list _ => exact h.elim
    | dict _ => exact h.elim
theorem F_read {n : Nat} {d : D} (hn : n ≤ 41) (h : Pl n d) (hl : (shw n d).length ≤ 90000) : c_read_plain.F [.im (.str (mk (shw n d)))] = some (d, [.im (.str (mk (shw n d)))]) := by
  have hv := (val_ok n 90 0 (by omega) (by omega)).2 d [] [] h (fun c hc => by cases hc) (fun c hc => by cases hc) (by simpa using hl)
  simp only [List.nil_append, List.append_nil] at hv
  have hlen := len_str (l := shw n d) (by omega)
  generalize mk (shw n d) = T at *
  generalize (shw n d).length = N at *
  have e := call3 (c := c__value 90) (fa := cVar 0) (fb := cPure (.int 0)) (fc := cPure (.int 0)) (α := [.im (.str T), .no, .no]) (value_m 90) rfl rfl rfl hv
  unfold c_read_plain fnD g_read_plain
  simp [cRun, sSeq, sSet, sRet, sSkip, sDrop, sAsg, sStore, sOwn, sFrz, frzA, sBreak, sCont, cIf, cT, cTr, cVar, cPure, cOp, cUn, cAnd, cOr, cNot, cNotE, cBand, cBor, cACons, cANil, cBlt, cTup, cLst, cFrz, cPeek, cPeekT, cSl, cPart, cNoP, cSm, outs, asBool, asInt, asStr, truD, thaw, ob_some, atom, cOwn, hAppend, gNm, cYes, e, gTp, gsCons, gsNil, hlen, int_ne]
end Law
set_option maxHeartbeats 4000000
namespace Law
open PySem PySem.Spec L2 Pv
/-! ### digits -/
theorem mulR (i : Int) {j : Int} (h : j.natAbs < 2 ^ 64) : dMulI (.int i) (.int j) = some (.int (i * j)) := by
  show (if mulOk i j = true then some (PyData.int (i * j)) else none) = _
  rw [if_pos]
  unfold mulOk
  rw [decide_eq_true h]
  simp
theorem mulL {i : Int} (j : Int) (h : i.natAbs < 2 ^ 64) : dMulI (.int i) (.int j) = some (.int (i * j)) := by
  show (if mulOk i j = true then some (PyData.int (i * j)) else none) = _
  rw [if_pos]
  unfold mulOk
  rw [decide_eq_true h]
  simp
theorem subI (i j : Int) : dSubI (.int i) (.int j) = some (.int (i - j)) := rfl
theorem modI (i : Int) {j : Int} (h : 0 < j) : dModI (.int i) (.int j) = some (.int (i % j)) := by
  show (if 0 < j then some (PyData.int (i % j)) else none) = _
  rw [if_pos h]
theorem divI (i : Int) {j : Int} (h : divOk j = true) : dDivI (.int i) (.int j) = some (.int (i / j)) := by
  show (if divOk j = true then some (PyData.int (i / j)) else none) = _
  rw [if_pos h]
theorem intI (i : Int) : (bInt [.int i]).or (bIntS [.int i]) = some (.int i) := rfl
theorem ltI (i j : Int) : dLt (.int i) (.int j) = some (.bool (decide (i < j))) := rfl
theorem gtI (i j : Int) : dGt (.int i) (.int j) = some (.bool (decide (j < i))) := rfl
theorem geI (i j : Int) : dGe (.int i) (.int j) = some (.bool (decide (j ≤ i))) := rfl
theorem leI (i j : Int) : dLe (.int i) (.int j) = some (.bool (decide (i ≤ j))) := rfl
theorem lenL (xs : List D) : bLen [.list xs] = some (.int xs.length) := rfl
theorem ixL_nat (xs : List D) (k : Nat) : dIx (.list xs) (.int (k : Int)) = xs[k]? := by
  show (atI xs (k : Int)).or ((none : Option D).or none) = _
  rw [atI_nat]
  cases xs[k]? <;> rfl
theorem forL_n {tg : D → Ev → Option Ev} {body : Ev → Option Out} {R : Nat → Ev → Prop} (N : Nat) : ∀ (ds : List D) (n : Nat) (α : Ev), n + ds.length ≤ N → R n α → (∀ d ∈ ds, ∀ n α, n < N → R n α → ∃ α1 α2, tg d α = some α1 ∧ ((body α1 = some (.nx α2) ∧ R (n + 1) α2) ∨ (body α1 = some (.bk α2) ∧ R n α2))) →
    ∃ α' m, forL tg body ds α = some (.nx α') ∧ m ≤ N ∧ R m α'
  | [], n, α, hN, h, _ => ⟨α, n, rfl, hN, h⟩
  | d :: ds, n, α, hN, h, k => by
    rw [List.length_cons] at hN
    obtain ⟨α1, α2, e1, h2⟩ := k d List.mem_cons_self n α (by omega) h
    rcases h2 with ⟨e2, h2⟩ | ⟨e2, h2⟩
    · obtain ⟨α', m, e3, hm, h3⟩ := forL_n N ds (n + 1) α2 (by omega) h2 fun d hd => k d (List.mem_cons_of_mem _ hd)
      refine ⟨α', m, ?_, hm, h3⟩
      unfold forL
      rw [e1, ob_some, e2]
      exact e3
    · refine ⟨α2, n, ?_, by omega, h2⟩
      unfold forL
      rw [e1, ob_some, e2]
      rfl
theorem F_cell (ns : List Int) (k : Nat) : ∃ c, c__law_cell.F [.im (.list (ns.map PyData.int)), .im (.int (k : Int))] = some (.int c, [.im (.list (ns.map PyData.int)), .im (.int (k : Int))]) := by
  unfold c__law_cell fnD g__law_cell
  by_cases h : k < ns.length
  · refine ⟨ns[k], ?_⟩
    simp [cRun, sSeq, sSet, sRet, sSkip, sDrop, sAsg, sStore, sOwn, sFrz, frzA, sBreak, sCont, cIf, cT, cTr, cVar, cPure, cOp, cUn, cAnd, cOr, cNot, cNotE, cBand, cBor, cACons, cANil, cBlt, cTup, cLst, cFrz, cPeek, cPeekT, cSl, cPart, cNoP, cSm, outs, asBool, asInt, asStr, truD, thaw, ob_some, atom, cOwn, hAppend, gNm, cYes, lenL, ltI, ixL_nat, h]
  · refine ⟨0, ?_⟩
    simp [cRun, sSeq, sSet, sRet, sSkip, sDrop, sAsg, sStore, sOwn, sFrz, frzA, sBreak, sCont, cIf, cT, cTr, cVar, cPure, cOp, cUn, cAnd, cOr, cNot, cNotE, cBand, cBor, cACons, cANil, cBlt, cTup, cLst, cFrz, cPeek, cPeekT, cSl, cPart, cNoP, cSm, outs, asBool, asInt, asStr, truD, thaw, ob_some, atom, cOwn, hAppend, gNm, cYes, lenL, ltI, h]
def bD1 : Ev → Option Out := (cIf (cT (cOp dGt (cVar 5) (cPure (.int 0)))) (sSeq (sDrop (cOwn 3 hAppend (cACons (cOp dModI (cBlt (fun as => (bInt as).or (bIntS as)) (cACons (cVar 5) cANil)) (cPure (.int 1000))) cANil))) (sSet 5 (cOp dDivI (cVar 5) (cPure (.int 1000))))) sSkip)
def bD2 : Ev → Option Out := (sSeq (sSet 7 (cOp dModI (cBlt (fun as => (bInt as).or (bIntS as)) (cACons (cOp dAdd (cOp dAdd (cOp dMulI (cVar 7) (cPure (.int 16807))) (cOp dMulI (cPure (.int 7)) (cVar 6))) (cPure (.int 1))) cANil)) (cPure (.int 2147483647)))) (sDrop (cOwn 3 hAppend (cACons (cOp dModI (cBlt (fun as => (bInt as).or (bIntS as)) (cACons (cOp dDivI (cVar 7) (cPure (.int 997))) cANil)) (cPure (.int 1000))) cANil))))
theorem z_line {n : Nat} (h : n ≤ 100000) : n < sizeLine := Nat.lt_of_le_of_lt h (by decide)
theorem snocI (ds : List Int) (i : Int) : ds.map PyData.int ++ [PyData.int i] = (ds ++ [i]).map PyData.int := by simp
theorem loop60 (a0 a1 a2 x4 x6 x7 : AV) (ds : List Int) (c : Int) (hl : ds.length ≤ 50000) : ∃ (ds' : List Int) (c' : Int) (x6' : AV), forL (gNm 6) bD1 (rngD 0 60) [a0, a1, a2, .own (.lst (ds.map PyData.int)), x4, .im (.int c), x6, x7] = some (.nx [a0, a1, a2, .own (.lst (ds'.map PyData.int)), x4, .im (.int c'), x6', x7]) ∧ ds'.length ≤ ds.length + 60 := by
  obtain ⟨α', m, e, hm, ds', c', x6', rfl, hl'⟩ := forL_n (tg := gNm 6) (body := bD1) (R := fun n α => ∃ (ds' : List Int) (c' : Int) (x6' : AV), α = [a0, a1, a2, .own (.lst (ds'.map PyData.int)), x4, .im (.int c'), x6', x7] ∧ ds'.length ≤ ds.length + n)
    60 (rngD 0 60) 0 [a0, a1, a2, .own (.lst (ds.map PyData.int)), x4, .im (.int c), x6, x7] (by decide) ⟨ds, c, x6, rfl, Nat.le_refl _⟩ fun d hd n α hn hR => by
    obtain ⟨ds', c', x6', rfl, hl'⟩ := hR
    refine ⟨[a0, a1, a2, .own (.lst (ds'.map PyData.int)), x4, .im (.int c'), .im d, x7], ?_⟩
    have z : (ds'.map PyData.int).length < sizeLine := z_line (by rw [List.length_map]; omega)
    by_cases hc : 0 < c'
    · refine ⟨[a0, a1, a2, .own (.lst ((ds' ++ [c' % 1000]).map PyData.int)), x4, .im (.int (c' / 1000)), .im d, x7], rfl, .inl ⟨?_, _, _, _, rfl, by rw [List.length_append]; show _ + 1 ≤ _; omega⟩⟩
      rw [← snocI]
      unfold bD1
      simp only [List.length_map] at z
      simp [cRun, sSeq, sSet, sRet, sSkip, sDrop, sAsg, sStore, sOwn, sFrz, frzA, sBreak, sCont, cIf, cT, cTr, cVar, cPure, cOp, cUn, cAnd, cOr, cNot, cNotE, cBand, cBor, cACons, cANil, cBlt, cTup, cLst, cFrz, cPeek, cPeekT, cSl, cPart, cNoP, cSm, outs, asBool, asInt, asStr, truD, thaw, ob_some, atom, cOwn, hAppend, gNm, cYes, gtI, hc, intI, modI, divI c' (j := 1000) (by decide), z]
    · refine ⟨[a0, a1, a2, .own (.lst (ds'.map PyData.int)), x4, .im (.int c'), .im d, x7], rfl, .inl ⟨?_, _, _, _, rfl, by omega⟩⟩
      unfold bD1
      simp [cRun, sSeq, sSet, sRet, sSkip, sDrop, sAsg, sStore, sOwn, sFrz, frzA, sBreak, sCont, cIf, cT, cTr, cVar, cPure, cOp, cUn, cAnd, cOr, cNot, cNotE, cBand, cBor, cACons, cANil, cBlt, cTup, cLst, cFrz, cPeek, cPeekT, cSl, cPart, cNoP, cSm, outs, asBool, asInt, asStr, truD, thaw, ob_some, atom, cOwn, hAppend, gNm, cYes, gtI, hc]
  exact ⟨ds', c', x6', e, by omega⟩
theorem loop12 (a0 a1 a2 x4 x5 x6 : AV) (ds : List Int) (c : Int) (hl : ds.length ≤ 50000) : ∃ (ds' : List Int) (c' : Int) (x6' : AV), forL (gNm 6) bD2 (rngD 0 12) [a0, a1, a2, .own (.lst (ds.map PyData.int)), x4, x5, x6, .im (.int c)] = some (.nx [a0, a1, a2, .own (.lst (ds'.map PyData.int)), x4, x5, x6', .im (.int c')]) ∧ ds'.length ≤ ds.length + 12 := by
  obtain ⟨α', m, e, hm, ds', c', x6', rfl, hl'⟩ := forL_n (tg := gNm 6) (body := bD2) (R := fun n α => ∃ (ds' : List Int) (c' : Int) (x6' : AV), α = [a0, a1, a2, .own (.lst (ds'.map PyData.int)), x4, x5, x6', .im (.int c')] ∧ ds'.length ≤ ds.length + n)
    12 (rngD 0 12) 0 [a0, a1, a2, .own (.lst (ds.map PyData.int)), x4, x5, x6, .im (.int c)] (by decide) ⟨ds, c, x6, rfl, Nat.le_refl _⟩ fun d hd n α hn hR => by
    obtain ⟨ds', c', x6', rfl, hl'⟩ := hR
    obtain ⟨t, ht, rfl⟩ := List.mem_map.mp hd
    refine ⟨[a0, a1, a2, .own (.lst (ds'.map PyData.int)), x4, x5, .im (.int (0 + (t : Int))), .im (.int c')], ?_⟩
    have z : ds'.length < sizeLine := z_line (by omega)
    generalize (0 + (t : Int)) = t'
    refine ⟨[a0, a1, a2, .own (.lst ((ds' ++ [(c' * 16807 + 7 * t' + 1) % 2147483647 / 997 % 1000]).map PyData.int)), x4, x5, .im (.int t'), .im (.int ((c' * 16807 + 7 * t' + 1) % 2147483647))], rfl, .inl ⟨?_, _, _, _, rfl, by rw [List.length_append]; show _ + 1 ≤ _; omega⟩⟩
    rw [← snocI]
    unfold bD2
    simp [cRun, sSeq, sSet, sRet, sSkip, sDrop, sAsg, sStore, sOwn, sFrz, frzA, sBreak, sCont, cIf, cT, cTr, cVar, cPure, cOp, cUn, cAnd, cOr, cNot, cNotE, cBand, cBor, cACons, cANil, cBlt, cTup, cLst, cFrz, cPeek, cPeekT, cSl, cPart, cNoP, cSm, outs, asBool, asInt, asStr, truD, thaw, ob_some, atom, cOwn, hAppend, gNm, cYes, mulR c' (j := 16807) (by decide), mulL t' (i := 7) (by decide), addI, intI, modI, divI _ (j := 997) (by decide), z]
  exact ⟨ds', c', x6', e, by omega⟩
def bD : Ev → Option Out := (sSeq (cIf (cT (cOp dGt (cPeek (cBlt bLen (cACons (cVar 3) cANil))) (cPure (.int 1500)))) sBreak sSkip) (sSeq (sSet 5 (cCall c__law_cell (gaD (cVar 0) (gaD (cVar 4) gaNil)))) (sSeq (cIf (cT (cOp dLt (cVar 5) (cPure (.int 0)))) (sSet 5 (cOp dSubI (cPure (.int 1)) (cOp dMulI (cPure (.int 2)) (cVar 5)))) sSkip) (cIf (cT (cOp dGe (cVar 5) (cOp dPowI (cPure (.int 10)) (cPure (.int 18))))) (sFor (cRng1 (cPure (.int 60))) (gNm 6) bD1) (sSeq (sSet 7 (cOp dModI (cBlt (fun as => (bInt as).or (bIntS as)) (cACons (cOp dAdd (cOp dAdd (cOp dMulI (cVar 5) (cPure (.int 48271))) (cOp dMulI (cVar 4) (cPure (.int 69621)))) (cPure (.int 11))) cANil)) (cPure (.int 2147483647)))) (sFor (cRng1 (cPure (.int 12))) (gNm 6) bD2))))))
theorem pow18 : dPowI (.int 10) (.int 18) = some (.int 1000000000000000000) := rfl
theorem rng60 (α : Ev) : cRng1 (cPure (.int 60)) α = some (rngD 0 60, α) := cRng1_ok (n := 60) rfl (by decide)
theorem rng12 (α : Ev) : cRng1 (cPure (.int 12)) α = some (rngD 0 12, α) := cRng1_ok (n := 12) rfl (by decide)
theorem bD_step (ns ds : List Int) (k : Nat) (x5 x6 x7 a1 a2 : AV) (hl : ds.length ≤ 1600) : ∃ (ds' : List Int) (y5 y6 y7 : AV) (o : Ev → Out), (o = .nx ∨ o = .bk) ∧ ds'.length ≤ 1600 ∧
    bD [.im (.list (ns.map PyData.int)), a1, a2, .own (.lst (ds.map PyData.int)), .im (.int (k : Int)), x5, x6, x7] = some (o [.im (.list (ns.map PyData.int)), a1, a2, .own (.lst (ds'.map PyData.int)), .im (.int (k : Int)), y5, y6, y7]) := by
  by_cases h1 : 1500 < ds.length
  · refine ⟨ds, x5, x6, x7, .bk, .inr rfl, hl, ?_⟩
    have h1 : (1500 : Int) < (ds.length : Int) := by omega
    unfold bD
    simp [cRun, sSeq, sSet, sRet, sSkip, sDrop, sAsg, sStore, sOwn, sFrz, frzA, sBreak, sCont, cIf, cT, cTr, cVar, cPure, cOp, cUn, cAnd, cOr, cNot, cNotE, cBand, cBor, cACons, cANil, cBlt, cTup, cLst, cFrz, cPeek, cPeekT, cSl, cPart, cNoP, cSm, outs, asBool, asInt, asStr, truD, thaw, ob_some, atom, cOwn, hAppend, gNm, cYes, lenL, gtI, h1]
  · have h1' : ¬ (1500 : Int) < (ds.length : Int) := by omega
    obtain ⟨c, hc⟩ := F_cell ns k
    have ec := call2 (c := c__law_cell) (fa := cVar 0) (fb := cVar 4) (α := [.im (.list (ns.map PyData.int)), a1, a2, .own (.lst (ds.map PyData.int)), .im (.int (k : Int)), x5, x6, x7]) (α1 := [.im (.list (ns.map PyData.int)), a1, a2, .own (.lst (ds.map PyData.int)), .im (.int (k : Int)), x5, x6, x7]) (α2 := [.im (.list (ns.map PyData.int)), a1, a2, .own (.lst (ds.map PyData.int)), .im (.int (k : Int)), x5, x6, x7]) rfl rfl rfl hc
    have tail : ∀ c' : Int, ∃ (ds' : List Int) (y5 y6 y7 : AV), ds'.length ≤ 1600 ∧ cIf (cT (cOp dGe (cVar 5) (cOp dPowI (cPure (.int 10)) (cPure (.int 18))))) (sFor (cRng1 (cPure (.int 60))) (gNm 6) bD1) (sSeq (sSet 7 (cOp dModI (cBlt (fun as => (bInt as).or (bIntS as)) (cACons (cOp dAdd (cOp dAdd (cOp dMulI (cVar 5) (cPure (.int 48271))) (cOp dMulI (cVar 4) (cPure (.int 69621)))) (cPure (.int 11))) cANil)) (cPure (.int 2147483647)))) (sFor (cRng1 (cPure (.int 12))) (gNm 6) bD2))
        [.im (.list (ns.map PyData.int)), a1, a2, .own (.lst (ds.map PyData.int)), .im (.int (k : Int)), .im (.int c'), x6, x7] = some (.nx [.im (.list (ns.map PyData.int)), a1, a2, .own (.lst (ds'.map PyData.int)), .im (.int (k : Int)), y5, y6, y7]) := fun c' => by
      by_cases h2 : (1000000000000000000 : Int) ≤ c'
      · obtain ⟨ds', c2, x6', e, hl'⟩ := loop60 (.im (.list (ns.map PyData.int))) a1 a2 (.im (.int (k : Int))) x6 x7 ds c' (by omega)
        refine ⟨ds', .im (.int c2), x6', x7, by omega, ?_⟩
        simp [cRun, sSeq, sSet, sRet, sSkip, sDrop, sAsg, sStore, sOwn, sFrz, frzA, sBreak, sCont, cIf, cT, cTr, cVar, cPure, cOp, cUn, cAnd, cOr, cNot, cNotE, cBand, cBor, cACons, cANil, cBlt, cTup, cLst, cFrz, cPeek, cPeekT, cSl, cPart, cNoP, cSm, outs, asBool, asInt, asStr, truD, thaw, ob_some, atom, cOwn, hAppend, gNm, cYes, pow18, geI, h2, sFor, rng60, e]
      · obtain ⟨ds', c2, x6', e, hl'⟩ := loop12 (.im (.list (ns.map PyData.int))) a1 a2 (.im (.int (k : Int))) (.im (.int c')) x6 ds ((c' * 48271 + (k : Int) * 69621 + 11) % 2147483647) (by omega)
        refine ⟨ds', .im (.int c'), x6', .im (.int c2), by omega, ?_⟩
        simp [cRun, sSeq, sSet, sRet, sSkip, sDrop, sAsg, sStore, sOwn, sFrz, frzA, sBreak, sCont, cIf, cT, cTr, cVar, cPure, cOp, cUn, cAnd, cOr, cNot, cNotE, cBand, cBor, cACons, cANil, cBlt, cTup, cLst, cFrz, cPeek, cPeekT, cSl, cPart, cNoP, cSm, outs, asBool, asInt, asStr, truD, thaw, ob_some, atom, cOwn, hAppend, gNm, cYes, pow18, geI, h2, sFor, rng12, e, mulR _ (j := 48271) (by decide), mulR _ (j := 69621) (by decide), addI, intI, modI]
    unfold bD
    by_cases h2 : c < 0
    · obtain ⟨ds', y5, y6, y7, hl', et⟩ := tail (1 - 2 * c)
      refine ⟨ds', y5, y6, y7, .nx, .inl rfl, hl', ?_⟩
      generalize (cIf (cT (cOp dGe (cVar 5) (cOp dPowI (cPure (.int 10)) (cPure (.int 18))))) (sFor (cRng1 (cPure (.int 60))) (gNm 6) bD1) _) = rest at et ⊢
      simp [cRun, sSeq, sSet, sRet, sSkip, sDrop, sAsg, sStore, sOwn, sFrz, frzA, sBreak, sCont, cIf, cT, cTr, cVar, cPure, cOp, cUn, cAnd, cOr, cNot, cNotE, cBand, cBor, cACons, cANil, cBlt, cTup, cLst, cFrz, cPeek, cPeekT, cSl, cPart, cNoP, cSm, outs, asBool, asInt, asStr, truD, thaw, ob_some, atom, cOwn, hAppend, gNm, cYes, lenL, gtI, ltI, h1, h1', ec, h2, mulL _ (i := 2) (by decide), subI, et]
    · obtain ⟨ds', y5, y6, y7, hl', et⟩ := tail c
      refine ⟨ds', y5, y6, y7, .nx, .inl rfl, hl', ?_⟩
      generalize (cIf (cT (cOp dGe (cVar 5) (cOp dPowI (cPure (.int 10)) (cPure (.int 18))))) (sFor (cRng1 (cPure (.int 60))) (gNm 6) bD1) _) = rest at et ⊢
      simp [cRun, sSeq, sSet, sRet, sSkip, sDrop, sAsg, sStore, sOwn, sFrz, frzA, sBreak, sCont, cIf, cT, cTr, cVar, cPure, cOp, cUn, cAnd, cOr, cNot, cNotE, cBand, cBor, cACons, cANil, cBlt, cTup, cLst, cFrz, cPeek, cPeekT, cSl, cPart, cNoP, cSm, outs, asBool, asInt, asStr, truD, thaw, ob_some, atom, cOwn, hAppend, gNm, cYes, lenL, gtI, ltI, h1, h1', ec, h2, et]
theorem F_digits (ns : List Int) : ∃ ds : List Int, c__law_digits.F [.im (.list (ns.map PyData.int)), .im (.int 0), .im (.int 63)] = some (.list (ds.map PyData.int), [.im (.list (ns.map PyData.int)), .im (.int 0), .im (.int 63)]) := by
  obtain ⟨α', m, e, hm, ds', x4, x5, x6, x7, rfl, hl'⟩ := forL_n (tg := gNm 4) (body := bD) (R := fun n α => ∃ (ds' : List Int) (x4 x5 x6 x7 : AV), α = [.im (.list (ns.map PyData.int)), .im (.int 0), .im (.int 63), .own (.lst (ds'.map PyData.int)), x4, x5, x6, x7] ∧ ds'.length ≤ 1600)
    63 (rngD 0 63) 0 [.im (.list (ns.map PyData.int)), .im (.int 0), .im (.int 63), .own (.lst (([] : List Int).map PyData.int)), .no, .no, .no, .no] (by decide) ⟨[], _, _, _, _, rfl, by decide⟩ fun d hd n α hn hR => by
    obtain ⟨ds, x4, x5, x6, x7, rfl, hl⟩ := hR
    obtain ⟨t, ht, rfl⟩ := List.mem_map.mp hd
    obtain ⟨ds', y5, y6, y7, o, ho, hl', e⟩ := bD_step ns ds t x5 x6 x7 (.im (.int 0)) (.im (.int 63)) hl
    refine ⟨[.im (.list (ns.map PyData.int)), .im (.int 0), .im (.int 63), .own (.lst (ds.map PyData.int)), .im (.int (t : Int)), x5, x6, x7], [.im (.list (ns.map PyData.int)), .im (.int 0), .im (.int 63), .own (.lst (ds'.map PyData.int)), .im (.int (t : Int)), y5, y6, y7], by rw [Int.zero_add]; rfl, ?_⟩
    rcases ho with rfl | rfl
    · exact .inl ⟨e, _, _, _, _, _, rfl, hl'⟩
    · exact .inr ⟨e, _, _, _, _, _, rfl, hl'⟩
  refine ⟨ds', ?_⟩
  have er : ∀ α, cRng2 (cVar 1) (cVar 2) ([.im (.list (ns.map PyData.int)), .im (.int 0), .im (.int 63)] ++ α) = some (rngD 0 63, [.im (.list (ns.map PyData.int)), .im (.int 0), .im (.int 63)] ++ α) := fun α => rfl
  have er := er [.own (.lst []), .no, .no, .no, .no]
  unfold bD bD1 bD2 at e
  have z0 : (0 : Nat) ≤ sizeLine := by decide
  simp only [List.map_nil, List.cons_append, List.nil_append] at e er
  unfold c__law_digits fnD g__law_digits
  simp [cRun, sSeq, sSet, sRet, sSkip, sDrop, sAsg, sStore, sOwn, sFrz, frzA, sBreak, sCont, cIf, cT, cTr, cVar, cPure, cOp, cUn, cAnd, cOr, cNot, cNotE, cBand, cBor, cACons, cANil, cBlt, cTup, cLst, cFrz, cPeek, cPeekT, cSl, cPart, cNoP, cSm, outs, asBool, asInt, asStr, truD, thaw, ob_some, atom, cOwn, hAppend, gNm, cYes, sFor, er, e, z0]
end Law
set_option maxHeartbeats 4000000
namespace Law
open PySem PySem.Spec L2 Pv
theorem drw_lo (ds : List Int) (k : Nat) {m : Int} (h : 0 < m) : 0 ≤ drw ds k m := by
  unfold drw
  split <;> exact Int.emod_nonneg _ (by omega)
theorem drw_hi (ds : List Int) (k : Nat) {m : Int} (h : 0 < m) : drw ds k m < m := by
  unfold drw
  split <;> exact Int.emod_lt_of_pos _ h
theorem callD0 (ds : List Int) (k : Nat) {m : Int} (h : 0 < m) (r : Ev) : cCall c__law_draw (gaS 0 (gaD (cPure (.int m)) gaNil)) (bx ds k :: r) = some (.int (drw ds k m), bx ds (k + 1) :: r) := by
  have e := F_draw ds k m h
  unfold bx at *
  have hb : borOk c__law_draw.bor [.own (.lst [.list (ds.map PyData.int), .int (k : Int)]), .im (.int m)] = true := rfl
  unfold cCall gaS gaD gaNil cPure
  simp only [List.getElem?_cons_zero, ob_some, agAV]
  rw [if_pos ⟨rfl, by simp [slots], hb⟩, e]
  simp [putB]
theorem callD1 (ds : List Int) (k : Nat) {m : Int} (h : 0 < m) (x : AV) (r : Ev) : cCall c__law_draw (gaS 1 (gaD (cPure (.int m)) gaNil)) (x :: bx ds k :: r) = some (.int (drw ds k m), x :: bx ds (k + 1) :: r) := by
  have e := F_draw ds k m h
  unfold bx at *
  have hb : borOk c__law_draw.bor [.own (.lst [.list (ds.map PyData.int), .int (k : Int)]), .im (.int m)] = true := rfl
  unfold cCall gaS gaD gaNil cPure
  simp only [List.getElem?_cons_zero, List.getElem?_cons_succ, ob_some, agAV]
  rw [if_pos ⟨rfl, by simp [slots], hb⟩, e]
  simp [putB]
theorem comp_ex {vs : List Nat} {tg : D → Ev → Option Ev} {te : Ev → Option (D × Ev)} {R : Ev → Prop} {P : D → Prop} : ∀ (ds : List D) (α : Ev), R α → (∀ d ∈ ds, ∀ α, R α → ∃ α1 e α2, tg d (wipeA α vs) = some α1 ∧ te α1 = some (e, α2) ∧ P e ∧ R α2) →
    ∃ es α', compL vs tg cYes te ds α = some (es, α') ∧ es.length = ds.length ∧ (∀ e ∈ es, P e) ∧ R α'
  | [], α, h, _ => ⟨[], α, rfl, rfl, fun e he => (nomatch he), h⟩
  | d :: ds, α, h, k => by
    obtain ⟨α1, e, α2, e1, e2, hp, h2⟩ := k d List.mem_cons_self α h
    obtain ⟨es, α', e3, hl, hP, h3⟩ := comp_ex ds α2 h2 fun d hd => k d (List.mem_cons_of_mem _ hd)
    refine ⟨e :: es, α', ?_, by rw [List.length_cons, List.length_cons, hl], fun x hx => (List.mem_cons.mp hx).elim (fun z => z ▸ hp) (hP x), h3⟩
    unfold compL
    rw [e1, ob_some]
    show (te α1).bind _ = _
    rw [e2, ob_some]
    show (compL vs tg cYes te ds α2).bind _ = _
    rw [e3]
    rfl
def LB : Nat → Nat
  | 0 => 30
  | d + 1 => 3 * LB d + 4
theorem LB_ge (d : Nat) : 30 ≤ LB d := by
  induction d with
  | zero => exact Nat.le_refl _
  | succ d ih => show 30 ≤ 3 * LB d + 4; omega
theorem joinL_le {m : Nat} : ∀ ys : List (List Nat), (∀ y ∈ ys, y.length ≤ m) → (TL.joinL [32] ys).length ≤ ys.length * (m + 1)
  | [], _ => by simp [TL.joinL]
  | [p], h => by
    have := h p List.mem_cons_self
    show p.length ≤ 1 * (m + 1)
    omega
  | p :: q :: r, h => by
    have h1 := h p List.mem_cons_self
    have ih := joinL_le (q :: r) fun y hy => h y (List.mem_cons_of_mem _ hy)
    have e : (p :: q :: r).length * (m + 1) = (q :: r).length * (m + 1) + (m + 1) := by rw [List.length_cons, Nat.add_mul, Nat.one_mul]
    rw [joinL_cons [32] p (by simp), List.length_append, List.length_append, e]
    show p.length + (1 + _) ≤ _
    omega
theorem joinL_sharp {m : Nat} : ∀ ys : List (List Nat), (∀ y ∈ ys, y.length ≤ m) → (TL.joinL [32] ys).length ≤ ys.length * (m + 1) - 1
  | [], _ => by simp [TL.joinL]
  | [p], h => by
    have := h p List.mem_cons_self
    show p.length ≤ 1 * (m + 1) - 1
    omega
  | p :: q :: r, h => by
    have h1 := h p List.mem_cons_self
    have ih := joinL_sharp (q :: r) fun y hy => h y (List.mem_cons_of_mem _ hy)
    have e : (p :: q :: r).length * (m + 1) = (q :: r).length * (m + 1) + (m + 1) := by rw [List.length_cons, Nat.add_mul, Nat.one_mul]
    have e2 : (q :: r).length * (m + 1) = r.length * (m + 1) + (m + 1) := by rw [List.length_cons, Nat.add_mul, Nat.one_mul]
    rw [joinL_cons [32] p (by simp), List.length_append, List.length_append, e]
    show p.length + (1 + _) ≤ _
    omega
def SGL : List Nat := [32, 33, 34, 35, 36, 38, 39, 40, 41, 42, 43, 44, 45, 46, 47, 48, 49, 56, 57, 58, 59, 60, 61, 62, 63, 64, 65, 90, 91, 92, 93, 94, 95, 96, 97, 122, 123, 124, 125, 126, 10, 110, 84, 70, 78]
theorem oSG : (" !\"#$&'()*+,-./0189:;<=>?@AZ[\\]^_`az{|}~\nnTFN" : Str) = mk SGL := by decide +kernel
theorem one_strs : ∀ es : List D, (∀ e ∈ es, ∃ c, c < 128 ∧ e = .str (mk [c])) → ∃ cs : List Nat, (∀ c ∈ cs, c < 128) ∧ es = (cs.map fun c => [c]).map fun l => .str (mk l)
  | [], _ => ⟨[], fun c hc => (nomatch hc), rfl⟩
  | e :: es, h => by
    obtain ⟨c, hc, rfl⟩ := h _ List.mem_cons_self
    obtain ⟨cs, h1, rfl⟩ := one_strs es fun e he => h e (List.mem_cons_of_mem _ he)
    exact ⟨c :: cs, fun x hx => (List.mem_cons.mp hx).elim (fun z => z ▸ hc) (h1 x), rfl⟩
theorem flat_one (cs : List Nat) : (cs.map fun c => [c]).flatten = cs := by
  induction cs with
  | nil => rfl
  | cons c r ih => rw [List.map_cons, List.flatten_cons, ih]; rfl
theorem esc_le (l : List Nat) : (esc l).length ≤ 2 * l.length := by
  refine fm_len (fun c => ?_) l
  unfold esc1
  split
  · decide
  · split
    · decide
    · split <;> simp

theorem pow16 : dPowI (.int 10) (.int 16) = some (.int 10000000000000000) := rfl
theorem pow19 : dPowI (.int 10) (.int 19) = some (.int 10000000000000000000) := rfl
/-- one of a written list -/
theorem ix3 {a b c : D} {j : Int} (h0 : 0 ≤ j) (h1 : j < 3) : ∃ d, dIx (.list [a, b, c]) (.int j) = some d ∧ (d = a ∨ d = b ∨ d = c) := by
  have k : j = 0 ∨ j = 1 ∨ j = 2 := by omega
  rcases k with rfl | rfl | rfl
  · exact ⟨a, rfl, .inl rfl⟩
  · exact ⟨b, rfl, .inr (.inl rfl)⟩
  · exact ⟨c, rfl, .inr (.inr rfl)⟩
theorem ix4 {a b c d : D} {j : Int} (h0 : 0 ≤ j) (h1 : j < 4) : ∃ x, dIx (.list [a, b, c, d]) (.int j) = some x ∧ (x = a ∨ x = b ∨ x = c ∨ x = d) := by
  have k : j = 0 ∨ j = 1 ∨ j = 2 ∨ j = 3 := by omega
  rcases k with rfl | rfl | rfl | rfl
  · exact ⟨a, rfl, .inl rfl⟩
  · exact ⟨b, rfl, .inr (.inl rfl)⟩
  · exact ⟨c, rfl, .inr (.inr (.inl rfl))⟩
  · exact ⟨d, rfl, .inr (.inr (.inr rfl))⟩
theorem ixSG {j : Int} (h0 : 0 ≤ j) (h1 : j < 45) : ∃ c, c < 128 ∧ dIx (.str (mk SGL)) (.int j) = some (.str (mk [c])) := by
  obtain ⟨n, rfl⟩ : ∃ n : Nat, j = (n : Int) := ⟨j.toNat, by omega⟩
  have hn : n < SGL.length := by show n < 45; omega
  refine ⟨SGL[n], ?_, ?_⟩
  · have : ∀ c ∈ SGL, c < 128 := by decide
    exact this _ (List.getElem_mem hn)
  · show ((none : Option D)).or ((none : Option D).or (if (mk SGL).length ≤ sizeLine then (atI SGL (n : Int)).bind fun c => some (PyData.str ⟨#[c]⟩) else none)) = _
    rw [if_pos (line_ok (by decide)), atI_nat, List.getElem?_eq_getElem hn]
    rfl
/-- a drawn value -/
def Drawn (deep : Nat) (v : D) : Prop := Pl (deep + 1) v ∧ (shw (deep + 1) v).length ≤ LB deep
theorem drawn_int (deep : Nat) {i : Int} (h : i.natAbs < 10 ^ 20) : Drawn deep (.int i) := ⟨h, by
  have h1 := shw_int_len h
  have h2 := LB_ge deep
  show (intL i).length ≤ _
  omega⟩
theorem drawn_none (deep : Nat) : Drawn deep .none := ⟨trivial, by have h2 := LB_ge deep; show 1 ≤ _; omega⟩
theorem drawn_bool (deep : Nat) (b : Bool) : Drawn deep (.bool b) := ⟨trivial, by have h2 := LB_ge deep; show 1 ≤ _; omega⟩
theorem drawn_str (deep : Nat) {l : List Nat} (h : ∀ c ∈ l, c < 128) (hl : l.length ≤ 8) : Drawn deep (.str (mk l)) := ⟨h, by
  have h1 := esc_le l
  have h2 := LB_ge deep
  show (34 :: (esc l ++ [34])).length ≤ _
  rw [List.length_cons, List.length_append]
  show _ + 1 + 1 ≤ _
  omega⟩
theorem drawn_tup (deep : Nat) {vs : List D} (h : ∀ v ∈ vs, Drawn deep v) (hl : vs.length ≤ 3) : Drawn (deep + 1) (.tuple vs) := by
  refine ⟨⟨Nat.succ_pos _, fun v hv => (h v hv).1⟩, ?_⟩
  have h1 := joinL_le (m := LB deep) (vs.map (shw (deep + 1))) fun y hy => by
    obtain ⟨v, hv, rfl⟩ := List.mem_map.mp hy
    exact (h v hv).2
  rw [List.length_map] at h1
  have h3 : vs.length * (LB deep + 1) ≤ 3 * (LB deep + 1) := Nat.mul_le_mul_right _ hl
  have h0 : vs.length = 0 → (TL.joinL [32] (vs.map (shw (deep + 1)))).length = 0 := fun e => by
    rw [List.length_eq_zero_iff.mp e]; rfl
  have hj := joinL_sharp (m := LB deep) (vs.map (shw (deep + 1))) fun y hy => by
    obtain ⟨v, hv, rfl⟩ := List.mem_map.mp hy
    exact (h v hv).2
  rw [List.length_map] at hj
  show (40 :: (TL.joinL [32] (vs.map (shw (deep + 1))) ++ [41])).length ≤ 3 * LB deep + 4
  rw [List.length_cons, List.length_append]
  show _ + 1 + 1 ≤ _
  have h4 : vs.length * (LB deep + 1) = vs.length * LB deep + vs.length := by rw [Nat.mul_add, Nat.mul_one]
  have h5 : vs.length * LB deep ≤ 3 * LB deep := Nat.mul_le_mul_right _ hl
  omega

theorem callV {cv : Cal} (hm : cv.m = 2) (hb : cv.bor = [0]) {ds : List Int} {k k' : Nat} {f : Ev → Option (D × Ev)} {d v : D} {r : Ev} (hf : f (bx ds k :: r) = some (d, bx ds k :: r)) (hF : cv.F [bx ds k, .im d] = some (v, [bx ds k', .im d])) :
    cCall cv (gaS 0 (gaD f gaNil)) (bx ds k :: r) = some (v, bx ds k' :: r) := by
  unfold cCall
  have e : gaS 0 (gaD f gaNil) (bx ds k :: r) = some ([.s 0, .d d], bx ds k :: r) := by
    unfold gaS gaD gaNil
    simp only [List.getElem?_cons_zero]
    unfold bx at hf ⊢
    simp only [hf, ob_some]
  rw [e, ob_some]
  have ea : agAV (bx ds k :: r) [.s 0, .d d] = some [bx ds k, .im d] := rfl
  rw [ea, ob_some, if_pos ⟨hm.symm, by simp [slots], by rw [hb]; rfl⟩, hF]
  rfl
theorem outs_bx (ds : List Int) (k k' : Nat) (d : D) (y : AV) (r : Ev) : outs [bx ds k, .im d] (bx ds k' :: y :: r) = some [bx ds k', .im d] := rfl
theorem lv_step (cv : Cal) (hm : cv.m = 2) (hb : cv.bor = [0]) (deep : Nat) (hv : ∀ deep', deep = deep' + 1 → ∀ (ds : List Int) (k : Nat), ∃ v k', cv.F [bx ds k, .im (.int (deep' : Int))] = some (v, [bx ds k', .im (.int (deep' : Int))]) ∧ Drawn deep' v) (ds : List Int) (k : Nat) :
    ∃ v k', fnD 4 (g__law_value cv) [bx ds k, .im (.int (deep : Int))] = some (v, [bx ds k', .im (.int (deep : Int))]) ∧ Drawn deep v := by
  have e9 := callD0 ds k (m := 9) (by decide) [.im (.int (deep : Int)), .no, .no, .no, .no]
  have b0 := drw_lo ds k (m := 9) (by decide)
  have b1 := drw_hi ds k (m := 9) (by decide)
  generalize hK : drw ds k 9 = K at *
  by_cases hA : K < 3 ∧ 0 < deep
  · -- a tuple
    obtain ⟨deep, rfl⟩ : ∃ d, deep = d + 1 := ⟨deep - 1, by omega⟩
    have hv := hv deep rfl
    have h0 : (0 : Int) < ((deep + 1 : Nat) : Int) := by omega
    have h3 : K < 3 := hA.1
    have e4 := callD0 ds (k + 1) (m := 4) (by decide) [.im (.int ((deep + 1 : Nat) : Int)), .im (.int K), .no, .no, .no]
    have c0 := drw_lo ds (k + 1) (m := 4) (by decide)
    have c1 := drw_hi ds (k + 1) (m := 4) (by decide)
    obtain ⟨n, hn⟩ : ∃ n : Nat, drw ds (k + 1) 4 = (n : Int) := ⟨(drw ds (k + 1) 4).toNat, by omega⟩
    rw [hn] at e4 c1
    have er := cRng1_ok e4 (by omega)
    obtain ⟨es, α', ec, hl, hP, kk, y5, rfl⟩ := comp_ex (vs := [5]) (tg := gNm 5) (te := cCall cv (gaS 0 (gaD (cOp dSubI (cVar 1) (cPure (.int 1))) gaNil))) (R := fun α => ∃ (k : Nat) (x5 : AV), α = [bx ds k, .im (.int ((deep + 1 : Nat) : Int)), .im (.int K), .no, .no, x5]) (P := Drawn deep)
      (rngD 0 n) [bx ds (k + 1 + 1), .im (.int ((deep + 1 : Nat) : Int)), .im (.int K), .no, .no, .no] ⟨_, _, rfl⟩ fun d hd α hα => by
      obtain ⟨k, x5, rfl⟩ := hα
      obtain ⟨v, k', eF, hD⟩ := hv ds k
      refine ⟨[bx ds k, .im (.int ((deep + 1 : Nat) : Int)), .im (.int K), .no, .no, .im d], v, [bx ds k', .im (.int ((deep + 1 : Nat) : Int)), .im (.int K), .no, .no, .im d], rfl, callV hm hb ?_ eF, hD, _, _, rfl⟩
      have e1 : ((deep + 1 : Nat) : Int) - 1 = (deep : Int) := by omega
      simp only [cOp, cVar, cPure, List.getElem?_cons_zero, List.getElem?_cons_succ, ob_some, subI, e1]
    have hl3 : es.length ≤ 3 := by rw [hl]; show (List.map _ (List.range n)).length ≤ 3; rw [List.length_map, List.length_range]; omega
    refine ⟨.tuple es, kk, ?_, drawn_tup deep hP hl3⟩
    have z3 : es.length ≤ sizeLine := big_line (by omega)
    generalize ((deep + 1 : Nat) : Int) = dp at *
    unfold fnD g__law_value
    simp [cRun, sSeq, sSet, sRet, sSkip, sDrop, sAsg, sStore, sOwn, sFrz, frzA, sBreak, sCont, cIf, cT, cTr, cVar, cPure, cOp, cUn, cAnd, cOr, cNot, cNotE, cBand, cBor, cACons, cANil, cBlt, cTup, cLst, cFrz, cPeek, cPeekT, cSl, cPart, cNoP, cSm, outs, asBool, asInt, asStr, truD, thaw, ob_some, atom, cOwn, hAppend, gNm, cYes, e9, ltI, gtI, h3, h0, cComp, er, ec, z3, backA, keepIm, bTup, outs_bx]
  · have ecA : cAnd (cT (cOp dLt (cVar 2) (cPure (.int 3)))) (cT (cOp dGt (cVar 1) (cPure (.int 0)))) [bx ds (k + 1), .im (.int (deep : Int)), .im (.int K), .no, .no, .no] = some (false, [bx ds (k + 1), .im (.int (deep : Int)), .im (.int K), .no, .no, .no]) := by
      by_cases h1 : K < 3
      · have h2 : ¬ (0 : Int) < (deep : Int) := by omega
        simp [cRun, sSeq, sSet, sRet, sSkip, sDrop, sAsg, sStore, sOwn, sFrz, frzA, sBreak, sCont, cIf, cT, cTr, cVar, cPure, cOp, cUn, cAnd, cOr, cNot, cNotE, cBand, cBor, cACons, cANil, cBlt, cTup, cLst, cFrz, cPeek, cPeekT, cSl, cPart, cNoP, cSm, outs, asBool, asInt, asStr, truD, thaw, ob_some, atom, cOwn, hAppend, gNm, cYes, ltI, gtI, h1, h2]
        omega
      · simp [cRun, sSeq, sSet, sRet, sSkip, sDrop, sAsg, sStore, sOwn, sFrz, frzA, sBreak, sCont, cIf, cT, cTr, cVar, cPure, cOp, cUn, cAnd, cOr, cNot, cNotE, cBand, cBor, cACons, cANil, cBlt, cTup, cLst, cFrz, cPeek, cPeekT, cSl, cPart, cNoP, cSm, outs, asBool, asInt, asStr, truD, thaw, ob_some, atom, cOwn, hAppend, gNm, cYes, ltI, gtI, h1]
    unfold fnD g__law_value
    generalize cAnd (cT (cOp dLt (cVar 2) (cPure (.int 3)))) (cT (cOp dGt (cVar 1) (cPure (.int 0)))) = cA at ecA ⊢
    generalize (sRet (cBlt bTup (cACons (cFrz (cComp [5] (cRng1 (cCall c__law_draw (gaS 0 (gaD (cPure (.int 4)) gaNil)))) (gNm 5) cYes (cCall cv (gaS 0 (gaD (cOp dSubI (cVar 1) (cPure (.int 1))) gaNil))))) cANil))) = tupB
    generalize (deep : Int) = dp at *
    have z3 : (3 : Nat) ≤ sizeLine := by decide
    have z4 : (4 : Nat) ≤ sizeLine := by decide
    by_cases hK3 : K = 3
    · subst hK3
      have e4 := callD0 ds (k + 1) (m := 3) (by decide) [.im (.int dp), .im (.int 3), .no, .no, .no]
      obtain ⟨d, ed, hd⟩ := ix3 (a := .none) (b := .bool true) (c := .bool false) (drw_lo ds (k + 1) (m := 3) (by decide)) (drw_hi ds (k + 1) (m := 3) (by decide))
      refine ⟨d, k + 1 + 1, ?_, ?_⟩
      · simp [cRun, sSeq, sSet, sRet, sSkip, sDrop, sAsg, sStore, sOwn, sFrz, frzA, sBreak, sCont, cIf, cT, cTr, cVar, cPure, cOp, cUn, cAnd, cOr, cNot, cNotE, cBand, cBor, cACons, cANil, cBlt, cTup, cLst, cFrz, cPeek, cPeekT, cSl, cPart, cNoP, cSm, outs, asBool, asInt, asStr, truD, thaw, ob_some, atom, cOwn, hAppend, gNm, cYes, e9, ecA, int_eq, z3, e4, ed, outs_bx]
      · rcases hd with rfl | rfl | rfl
        · exact drawn_none deep
        · exact drawn_bool deep true
        · exact drawn_bool deep false
    · by_cases hK4 : K = 4
      · subst hK4
        have e1 := callD0 ds (k + 1) (m := 900) (by decide) [.im (.int dp), .im (.int 4), .no, .no, .no]
        have e2 := callD0 ds (k + 1 + 1) (m := 900) (by decide) [.im (.int dp), .im (.int 4), .no, .no, .no]
        have l1 := drw_lo ds (k + 1) (m := 900) (by decide)
        have l2 := drw_hi ds (k + 1) (m := 900) (by decide)
        have l3 := drw_lo ds (k + 1 + 1) (m := 900) (by decide)
        have l4 := drw_hi ds (k + 1 + 1) (m := 900) (by decide)
        generalize drw ds (k + 1) 900 = A at *
        generalize drw ds (k + 1 + 1) 900 = B at *
        have e3 := callD0 ds (k + 1 + 1 + 1) (m := 4) (by decide) [.im (.int dp), .im (.int 4), .im (.int (A * 10000000000000000 + B - 450)), .no, .no]
        obtain ⟨d, ed, hd⟩ := ix4 (a := .int (A * 10000000000000000 + B - 450)) (b := .int (0 - (A * 10000000000000000 + B - 450))) (c := .int (10000000000000000000 + (A * 10000000000000000 + B - 450))) (d := .int 0) (drw_lo ds (k + 1 + 1 + 1) (m := 4) (by decide)) (drw_hi ds (k + 1 + 1 + 1) (m := 4) (by decide))
        refine ⟨d, k + 1 + 1 + 1 + 1, ?_, ?_⟩
        · have q3 : ((4 : Int) == 3) = false := rfl
          have mA := mulR A (j := 10000000000000000) (by decide)
          generalize A * 10000000000000000 = A' at *
          have s0 : dSubI (.int 0) (.int (A' + B - 450)) = some (.int (0 - (A' + B - 450))) := rfl
          generalize hN2 : (0 - (A' + B - 450)) = N2 at *
          have a19 : dAdd (.int 10000000000000000000) (.int (A' + B - 450)) = some (.int (10000000000000000000 + (A' + B - 450))) := rfl
          generalize hN3 : (10000000000000000000 + (A' + B - 450)) = N3 at *
          have sB : dSubI (.int (A' + B)) (.int 450) = some (.int (A' + B - 450)) := rfl
          generalize hN1 : (A' + B - 450) = N1 at *
          have aB : dAdd (.int A') (.int B) = some (.int (A' + B)) := rfl
          simp [cRun, sSeq, sSet, sRet, sSkip, sDrop, sAsg, sStore, sOwn, sFrz, frzA, sBreak, sCont, cIf, cT, cTr, cVar, cPure, cOp, cUn, cAnd, cOr, cNot, cNotE, cBand, cBor, cACons, cANil, cBlt, cTup, cLst, cFrz, cPeek, cPeekT, cSl, cPart, cNoP, cSm, outs, asBool, asInt, asStr, truD, thaw, ob_some, atom, cOwn, hAppend, gNm, cYes, e9, ecA, int_eq, q3, z4, e1, e2, e3, ed, outs_bx, pow16, pow19, mA, aB, sB, s0, a19]
        · rcases hd with rfl | rfl | rfl | rfl
          · exact drawn_int deep (by omega)
          · exact drawn_int deep (by omega)
          · exact drawn_int deep (by omega)
          · exact drawn_int deep (by decide)
      · by_cases hK5 : K = 5
        · subst hK5
          have e1 := callD0 ds (k + 1) (m := 30) (by decide) [.im (.int dp), .im (.int 5), .no, .no, .no]
          have l1 := drw_lo ds (k + 1) (m := 30) (by decide)
          have l2 := drw_hi ds (k + 1) (m := 30) (by decide)
          refine ⟨.int (drw ds (k + 1) 30 - 15), k + 1 + 1, ?_, drawn_int deep (by omega)⟩
          simp [cRun, sSeq, sSet, sRet, sSkip, sDrop, sAsg, sStore, sOwn, sFrz, frzA, sBreak, sCont, cIf, cT, cTr, cVar, cPure, cOp, cUn, cAnd, cOr, cNot, cNotE, cBand, cBor, cACons, cANil, cBlt, cTup, cLst, cFrz, cPeek, cPeekT, cSl, cPart, cNoP, cSm, outs, asBool, asInt, asStr, truD, thaw, ob_some, atom, cOwn, hAppend, gNm, cYes, e9, ecA, int_eq, e1, outs_bx, subI]
        · have q3 : (K == 3) = false := by simpa using hK3
          have q4 : (K == 4) = false := by simpa using hK4
          have q5 : (K == 5) = false := by simpa using hK5
          have e4 := callD0 ds (k + 1) (m := 9) (by decide) [.im (.int dp), .im (.int K), .no, .im (.str (mk SGL)), .no]
          have c0 := drw_lo ds (k + 1) (m := 9) (by decide)
          have c1 := drw_hi ds (k + 1) (m := 9) (by decide)
          obtain ⟨n, hn⟩ : ∃ n : Nat, drw ds (k + 1) 9 = (n : Int) := ⟨(drw ds (k + 1) 9).toNat, by omega⟩
          rw [hn] at e4 c1
          have er := cRng1_ok e4 (by omega)
          have lSG : bLen [.str (mk SGL)] = some (.int 45) := len_str (l := SGL) (by decide)
          obtain ⟨es, α', ec, hl, hP, kk, y5, rfl⟩ := comp_ex (vs := [5]) (tg := gNm 5) (te := (cOp dIx (cVar 4) (cOp dModI (cBlt (fun as => (bInt as).or (bIntS as)) (cACons (cCall c__law_draw (gaS 0 (gaD (cPure (.int 900)) gaNil))) cANil)) (cBlt bLen (cACons (cVar 4) cANil))))) (R := fun α => ∃ (k : Nat) (x5 : AV), α = [bx ds k, .im (.int dp), .im (.int K), .no, .im (.str (mk SGL)), x5]) (P := fun e => ∃ c, c < 128 ∧ e = .str (mk [c]))
            (rngD 0 n) [bx ds (k + 1 + 1), .im (.int dp), .im (.int K), .no, .im (.str (mk SGL)), .no] ⟨_, _, rfl⟩ fun d hd α hα => by
            obtain ⟨k, x5, rfl⟩ := hα
            have e1 := callD0 ds k (m := 900) (by decide) [.im (.int dp), .im (.int K), .no, .im (.str (mk SGL)), .im d]
            generalize drw ds k 900 = A at *
            obtain ⟨c, hc, ei⟩ := ixSG (j := A % 45) (Int.emod_nonneg _ (by decide)) (Int.emod_lt_of_pos _ (by decide))
            refine ⟨[bx ds k, .im (.int dp), .im (.int K), .no, .im (.str (mk SGL)), .im d], .str (mk [c]), [bx ds (k + 1), .im (.int dp), .im (.int K), .no, .im (.str (mk SGL)), .im d], rfl, ?_, ⟨c, hc, rfl⟩, _, _, rfl⟩
            simp only [cOp, cVar, cBlt, cACons, cANil, e1, List.getElem?_cons_zero, List.getElem?_cons_succ, ob_some, intI, lSG, modI A (j := 45) (by decide), ei]
          have hl3 : es.length ≤ 8 := by rw [hl]; show (List.map _ (List.range n)).length ≤ 8; rw [List.length_map, List.length_range]; omega
          obtain ⟨cs, hcs, rfl⟩ := one_strs es hP
          rw [List.length_map, List.length_map] at hl3
          have ej := hJoin_mk (z := []) (ys := cs.map fun c => [c]) (by rw [joinL_nil, flat_one]; show _ + 0 ≤ _; omega)
          rw [joinL_nil, flat_one] at ej
          refine ⟨.str (mk cs), kk, ?_, drawn_str deep hcs hl3⟩
          have z3 : ((cs.map fun c => [c]).map fun l => PyData.str (mk l)).length ≤ sizeLine := by rw [List.length_map, List.length_map]; exact big_line (by omega)
          generalize ((cs.map fun c => [c]).map fun l => PyData.str (mk l)) = E at *
          simp [cRun, sSeq, sSet, sRet, sSkip, sDrop, sAsg, sStore, sOwn, sFrz, frzA, sBreak, sCont, cIf, cT, cTr, cVar, cPure, cOp, cUn, cAnd, cOr, cNot, cNotE, cBand, cBor, cACons, cANil, cBlt, cTup, cLst, cFrz, cPeek, cPeekT, cSl, cPart, cNoP, cSm, outs, asBool, asInt, asStr, truD, thaw, ob_some, atom, cOwn, hAppend, gNm, cYes, e9, ecA, int_eq, q3, q4, q5, oSG, oE, cComp, er, ec, z3, backA, keepIm, ej, outs_bx]
theorem lv_m (n : Nat) : (c__law_value n).m = 2 := by cases n <;> rfl
theorem lv_bor (n : Nat) : (c__law_value n).bor = [0] := by cases n <;> rfl
theorem F_lv (n : Nat) : ∀ deep : Nat, deep < n → ∀ (ds : List Int) (k : Nat), ∃ v k', (c__law_value n).F [bx ds k, .im (.int (deep : Int))] = some (v, [bx ds k', .im (.int (deep : Int))]) ∧ Drawn deep v := by
  induction n with
  | zero => intro deep h; omega
  | succ n ih =>
    intro deep h ds k
    exact lv_step (c__law_value n) (lv_m n) (lv_bor n) deep (fun d' e ds k => ih d' (by omega) ds k) ds k
end Law
set_option maxHeartbeats 4000000
namespace Law
open PySem PySem.Spec L2 Pv
theorem callV1 {cv : Cal} (hm : cv.m = 2) (hb : cv.bor = [0]) {ds : List Int} {k k' : Nat} {f : Ev → Option (D × Ev)} {d v : D} {x : AV} {r : Ev} (hf : f (x :: bx ds k :: r) = some (d, x :: bx ds k :: r)) (hF : cv.F [bx ds k, .im d] = some (v, [bx ds k', .im d])) :
    cCall cv (gaS 1 (gaD f gaNil)) (x :: bx ds k :: r) = some (v, x :: bx ds k' :: r) := by
  unfold cCall
  have e : gaS 1 (gaD f gaNil) (x :: bx ds k :: r) = some ([.s 1, .d d], x :: bx ds k :: r) := by
    unfold gaS gaD gaNil
    simp only [List.getElem?_cons_zero, List.getElem?_cons_succ]
    unfold bx at hf ⊢
    simp only [hf, ob_some]
  rw [e, ob_some]
  have ea : agAV (x :: bx ds k :: r) [.s 1, .d d] = some [bx ds k, .im d] := rfl
  rw [ea, ob_some, if_pos ⟨hm.symm, by simp [slots], by rw [hb]; rfl⟩, hF]
  rfl
theorem plain_m (n : Nat) : (c__law_plain n).m = 1 := by cases n <;> rfl
theorem show_m (n : Nat) : (c_show_plain n).m = 1 := by cases n <;> rfl
theorem same_m (n : Nat) : (c__law_same n).m = 2 := by cases n <;> rfl
def Wr (n : Nat) (w : D) : Prop := Pl (5 + n) w ∧ (shw (5 + n) w).length ≤ 2590 + 2 * n
theorem Wr.tup {n : Nat} {w : D} (h : Wr n w) : Wr (n + 1) (.tuple [w]) := by
  refine ⟨(show 0 < 5 + n ∧ ∀ d ∈ [w], Pl (5 + n) d from ⟨by omega, fun d hd => by rw [List.mem_singleton.mp hd]; exact h.1⟩), ?_⟩
  show (40 :: (shw (5 + n) w ++ [41])).length ≤ _
  have := h.2
  rw [List.length_cons, List.length_append]
  show _ + 1 + 1 ≤ _
  omega
/-- what is asked of a value holds -/
theorem test_ok {n : Nat} {w : D} (hn : n ≤ 36) (h : Wr n w) (a0 a1 a2 a4 : AV) : 
    cOr (cNot (cTr (cCall (c__law_same 60) (gaD (cCall (c_show_plain 60) (gaD (cVar 3) gaNil)) (gaD (cVar 5) gaNil))))) (cNot (cTr (cCall (c__law_same 60) (gaD (cCall c_read_plain (gaD (cVar 5) gaNil)) (gaD (cVar 3) gaNil)))))
      [a0, a1, a2, .im w, a4, .im (.str (mk (shw (5 + n) w)))] = some (false, [a0, a1, a2, .im w, a4, .im (.str (mk (shw (5 + n) w)))]) := by
  have hl := h.2
  have f1 := F_show (5 + n) 60 w (by omega) h.1 (by omega)
  have f2 := F_same_str 59 (x := mk (shw (5 + n) w)) fun c hc => Nat.lt_trans (shw_128 _ _ h.1 c hc) (by decide)
  have f3 := F_read (n := 5 + n) (by omega) h.1 (by omega)
  have f4 := F_same (5 + n) 60 w (by omega) h.1 (by omega)
  generalize mk (shw (5 + n) w) = T at *
  generalize hα : [a0, a1, a2, .im w, a4, .im (.str T)] = α
  have v3 : cVar 3 α = some (w, α) := by subst hα; rfl
  have v5 : cVar 5 α = some (.str T, α) := by subst hα; rfl
  have e1 := call1 (show_m 60) v3 f1
  have e2 := call2 (same_m 60) e1 v5 f2
  have e3 := call1 (c := c_read_plain) rfl v5 f3
  have e4 := call2 (same_m 60) e3 v3 f4
  simp only [cOr, cNot, cTr, e2, e4, ob_some, truD]
  rfl
def bL : Ev → Option Out := (sSeq (sSet 3 (cCall (c__law_value 60) (gaS 1 (gaD (cPure (.int 4)) gaNil)))) (sSeq (sFor (cRng1 (cOp dIx (cFrz (cLst (cACons (cPure (.int 0)) (cACons (cPure (.int 0)) (cACons (cPure (.int 0)) (cACons (cPure (.int 36)) cANil)))))) (cCall c__law_draw (gaS 1 (gaD (cPure (.int 4)) gaNil))))) (gNm 4) (sSet 3 (cTup (cACons (cVar 3) cANil)))) (sSeq (sSet 5 (cCall (c__law_plain 60) (gaD (cVar 3) gaNil))) (cIf (cOr (cNot (cTr (cCall (c__law_same 60) (gaD (cCall (c_show_plain 60) (gaD (cVar 3) gaNil)) (gaD (cVar 5) gaNil))))) (cNot (cTr (cCall (c__law_same 60) (gaD (cCall c_read_plain (gaD (cVar 5) gaNil)) (gaD (cVar 3) gaNil)))))) (sRet (cPure (.bool false))) sSkip))))
theorem bL_step (S : AV) (ds : List Int) (k : Nat) (x2 x3 x4 x5 : AV) : ∃ (k' : Nat) (y3 y4 y5 : AV), bL [S, bx ds k, x2, x3, x4, x5] = some (.nx [S, bx ds k', x2, y3, y4, y5]) := by
  obtain ⟨v, k1, eF, hD⟩ := F_lv 60 4 (by decide) ds k
  have e1 := callV1 (x := S) (f := cPure (.int 4)) (r := [x2, x3, x4, x5]) (lv_m 60) (lv_bor 60) rfl eF
  have e2 := callD1 ds k1 (m := 4) (by decide) S [x2, .im v, x4, x5]
  obtain ⟨d, ed, hd⟩ := ix4 (a := .int 0) (b := .int 0) (c := .int 0) (d := .int 36) (drw_lo ds k1 (m := 4) (by decide)) (drw_hi ds k1 (m := 4) (by decide))
  obtain ⟨n, hn, rfl⟩ : ∃ n : Nat, n ≤ 36 ∧ d = .int (n : Int) := by
    rcases hd with rfl | rfl | rfl | rfl
    · exact ⟨0, by decide, rfl⟩
    · exact ⟨0, by decide, rfl⟩
    · exact ⟨0, by decide, rfl⟩
    · exact ⟨36, by decide, rfl⟩
  have z4 : (4 : Nat) ≤ sizeLine := by decide
  have z1 : (1 : Nat) ≤ sizeLine := by decide
  have er : cRng1 (cOp dIx (cFrz (cLst (cACons (cPure (.int 0)) (cACons (cPure (.int 0)) (cACons (cPure (.int 0)) (cACons (cPure (.int 36)) cANil)))))) (cCall c__law_draw (gaS 1 (gaD (cPure (.int 4)) gaNil)))) [S, bx ds k1, x2, .im v, x4, x5] = some (rngD 0 n, [S, bx ds (k1 + 1), x2, .im v, x4, x5]) := by
    refine cRng1_ok ?_ (by omega)
    simp [cRun, sSeq, sSet, sRet, sSkip, sDrop, sAsg, sStore, sOwn, sFrz, frzA, sBreak, sCont, cIf, cT, cTr, cVar, cPure, cOp, cUn, cAnd, cOr, cNot, cNotE, cBand, cBor, cACons, cANil, cBlt, cTup, cLst, cFrz, cPeek, cPeekT, cSl, cPart, cNoP, cSm, outs, asBool, asInt, asStr, truD, thaw, ob_some, atom, cOwn, hAppend, gNm, cYes, z4, e2, ed]
  obtain ⟨α', m, ew, hm, w, y4, rfl, hw⟩ := forL_n (tg := gNm 4) (body := sSet 3 (cTup (cACons (cVar 3) cANil))) (R := fun n α => ∃ (w : D) (y4 : AV), α = [S, bx ds (k1 + 1), x2, .im w, y4, x5] ∧ Wr n w) n (rngD 0 n) 0 [S, bx ds (k1 + 1), x2, .im v, x4, x5]
    (by show 0 + (List.map _ (List.range n)).length ≤ n; rw [List.length_map, List.length_range]; omega) ⟨v, x4, rfl, hD.1, hD.2⟩ fun d hd j α _ hα => by
    obtain ⟨w, y4, rfl, hw⟩ := hα
    refine ⟨[S, bx ds (k1 + 1), x2, .im w, .im d, x5], [S, bx ds (k1 + 1), x2, .im (.tuple [w]), .im d, x5], rfl, .inl ⟨?_, _, _, rfl, hw.tup⟩⟩
    simp [cRun, sSeq, sSet, sRet, sSkip, sDrop, sAsg, sStore, sOwn, sFrz, frzA, sBreak, sCont, cIf, cT, cTr, cVar, cPure, cOp, cUn, cAnd, cOr, cNot, cNotE, cBand, cBor, cACons, cANil, cBlt, cTup, cLst, cFrz, cPeek, cPeekT, cSl, cPart, cNoP, cSm, outs, asBool, asInt, asStr, truD, thaw, ob_some, atom, cOwn, hAppend, gNm, cYes, z1]
  have hwl := hw.2
  have f5 := F_plain (5 + m) 60 w (by omega) hw.1 (by omega)
  have e5 := call1 (c := c__law_plain 60) (fa := cVar 3) (α := [S, bx ds (k1 + 1), x2, .im w, y4, x5]) (α1 := [S, bx ds (k1 + 1), x2, .im w, y4, x5]) (plain_m 60) rfl f5
  have et := test_ok (by omega) hw S (bx ds (k1 + 1)) x2 y4
  unfold bL
  generalize cOr (cNot (cTr (cCall (c__law_same 60) (gaD (cCall (c_show_plain 60) (gaD (cVar 3) gaNil)) (gaD (cVar 5) gaNil))))) _ = test at et ⊢
  generalize mk (shw (5 + m) w) = T at *
  generalize c__law_plain 60 = cp at *
  generalize c__law_value 60 = cv at *
  generalize (cRng1 (cOp dIx (cFrz (cLst (cACons (cPure (.int 0)) (cACons (cPure (.int 0)) (cACons (cPure (.int 0)) (cACons (cPure (.int 36)) cANil)))))) (cCall c__law_draw (gaS 1 (gaD (cPure (.int 4)) gaNil))))) = rg at *
  generalize (sSet 3 (cTup (cACons (cVar 3) cANil))) = wr at *
  refine ⟨k1 + 1, .im w, y4, .im (.str T), ?_⟩
  simp [cRun, sSeq, sSet, sRet, sSkip, sDrop, sAsg, sStore, sOwn, sFrz, frzA, sBreak, sCont, cIf, cT, cTr, cVar, cPure, cOp, cUn, cAnd, cOr, cNot, cNotE, cBand, cBor, cACons, cANil, cBlt, cTup, cLst, cFrz, cPeek, cPeekT, cSl, cPart, cNoP, cSm, outs, asBool, asInt, asStr, truD, thaw, ob_some, atom, cOwn, hAppend, gNm, cYes, e1, sFor, er, ew, e5, et]
theorem F_law (ns : List Int) : c_law.F [.im (.list (ns.map PyData.int))] = some (.bool true, [.im (.list (ns.map PyData.int))]) := by
  obtain ⟨ds, ed⟩ := F_digits ns
  have e3 := call3 (c := c__law_digits) (fa := cVar 0) (fb := cPure (.int 0)) (fc := cPure (.int 63)) (α := [.im (.list (ns.map PyData.int)), .no, .no, .no, .no, .no]) (α1 := [.im (.list (ns.map PyData.int)), .no, .no, .no, .no, .no]) (α2 := [.im (.list (ns.map PyData.int)), .no, .no, .no, .no, .no]) (α3 := [.im (.list (ns.map PyData.int)), .no, .no, .no, .no, .no]) rfl rfl rfl rfl ed
  generalize (ns.map PyData.int) = L at *
  have er : cRng1 (cPure (.int 6)) [.im (.list L), bx ds 0, .no, .no, .no, .no] = some (rngD 0 6, [.im (.list L), bx ds 0, .no, .no, .no, .no]) := cRng1_ok (n := 6) rfl (by decide)
  obtain ⟨α', m, ew, hm, k', x2, x3, x4, x5, rfl⟩ := forL_n (tg := gNm 2) (body := bL) (R := fun n α => ∃ (k : Nat) (x2 x3 x4 x5 : AV), α = [.im (.list L), bx ds k, x2, x3, x4, x5]) 6 (rngD 0 6) 0 [.im (.list L), bx ds 0, .no, .no, .no, .no] (by decide) ⟨0, _, _, _, _, rfl⟩ fun d hd j α _ hα => by
    obtain ⟨k, x2, x3, x4, x5, rfl⟩ := hα
    obtain ⟨k', y3, y4, y5, e⟩ := bL_step (.im (.list L)) ds k (.im d) x3 x4 x5
    exact ⟨[.im (.list L), bx ds k, .im d, x3, x4, x5], [.im (.list L), bx ds k', .im d, y3, y4, y5], rfl, .inl ⟨e, _, _, _, _, _, rfl⟩⟩
  have z2 : (2 : Nat) ≤ sizeLine := by decide
  have eb : (AV.own (.lst [.list (ds.map PyData.int), .int 0]) : AV) = bx ds 0 := rfl
  unfold bL at ew
  unfold c_law fnD g_law
  generalize (sSeq (sSet 3 (cCall (c__law_value 60) _)) _) = body at ew ⊢
  simp [cRun, sSeq, sSet, sRet, sSkip, sDrop, sAsg, sStore, sOwn, sFrz, frzA, sBreak, sCont, cIf, cT, cTr, cVar, cPure, cOp, cUn, cAnd, cOr, cNot, cNotE, cBand, cBor, cACons, cANil, cBlt, cTup, cLst, cFrz, cPeek, cPeekT, cSl, cPart, cNoP, cSm, outs, asBool, asInt, asStr, truD, thaw, ob_some, atom, cOwn, hAppend, gNm, cYes, e3, z2, eb, sFor, er, ew]
end Law
set_option maxHeartbeats 4000000
namespace Law
open PySem PySem.Spec L2 Pv
theorem all_mk {l : PySem.W.OpenLaw} {w : World} {K : PySem.W.Frag} {h : Heap} {mg : Str → Option Value} {fa : Addr} (X : K.In h) (G : h.Ns mainGlobals mg) (hfa : mg "law" = some (.ref fa))
    {f0 : Addr} {od0 an0 : Option Addr} {sl0 : Array (Option Value)} {oc0 kV0 dc0 pm0 cd0 ct0 : Value}
    {f1 : Addr} {od1 an1 : Option Addr} {sl1 : Array (Option Value)} {oc1 kV1 dc1 pm1 cd1 ct1 : Value}
    {f2 : Addr} {od2 an2 : Option Addr} {sl2 : Array (Option Value)} {oc2 kV2 dc2 pm2 cd2 ct2 : Value}
    {f3 : Addr} {od3 an3 : Option Addr} {sl3 : Array (Option Value)} {oc3 kV3 dc3 pm3 cd3 ct3 : Value}
    {f4 : Addr} {od4 an4 : Option Addr} {sl4 : Array (Option Value)} {oc4 kV4 dc4 pm4 cd4 ct4 : Value}
    {f5 : Addr} {od5 an5 : Option Addr} {sl5 : Array (Option Value)} {oc5 kV5 dc5 pm5 cd5 ct5 : Value}
    {f6 : Addr} {od6 an6 : Option Addr} {sl6 : Array (Option Value)} {oc6 kV6 dc6 pm6 cd6 ct6 : Value}
    {f7 : Addr} {od7 an7 : Option Addr} {sl7 : Array (Option Value)} {oc7 kV7 dc7 pm7 cd7 ct7 : Value}
    {f8 : Addr} {od8 an8 : Option Addr} {sl8 : Array (Option Value)} {oc8 kV8 dc8 pm8 cd8 ct8 : Value}
    {f9 : Addr} {od9 an9 : Option Addr} {sl9 : Array (Option Value)} {oc9 kV9 dc9 pm9 cd9 ct9 : Value}
    {f10 : Addr} {od10 an10 : Option Addr} {sl10 : Array (Option Value)} {oc10 kV10 dc10 pm10 cd10 ct10 : Value}
    {f11 : Addr} {od11 an11 : Option Addr} {sl11 : Array (Option Value)} {oc11 kV11 dc11 pm11 cd11 ct11 : Value}
    {f12 : Addr} {od12 an12 : Option Addr} {sl12 : Array (Option Value)} {oc12 kV12 dc12 pm12 cd12 ct12 : Value}
    {f13 : Addr} {od13 an13 : Option Addr} {sl13 : Array (Option Value)} {oc13 kV13 dc13 pm13 cd13 ct13 : Value}
    {f14 : Addr} {od14 an14 : Option Addr} {sl14 : Array (Option Value)} {oc14 kV14 dc14 pm14 cd14 ct14 : Value}
    {t_DEEPEST : Tok}
    {t_DIGITS : Tok}
    {t_MOST_DIGITS : Tok}
    {d_ESCAPES : Addr} {es_ESCAPES : Array DictEntry} {m_ESCAPES : Nat}
    {d_WORDS : Addr} {es_WORDS : Array DictEntry} {m_WORDS : Nat}
    (a0 : PySem.W.nsIn K mainGlobals "_quoted" = some (some (.ref f0))) (l0 : K.lookup f0 = some ⟨oc0, od0, .func (PySem.W.fnOf "_quoted" "_quoted" (defArgs s__quoted) (defBody s__quoted) (defScope s__quoted) .none kV0 dc0 pm0 an0 cd0 ct0), sl0⟩) (c0 : PySem.W.codeIn K cd0 "_quoted" = true) (k0 : PySem.W.keepIn K (.ref f0) = true)
    (a1 : PySem.W.nsIn K mainGlobals "show_plain" = some (some (.ref f1))) (l1 : K.lookup f1 = some ⟨oc1, od1, .func (PySem.W.fnOf "show_plain" "show_plain" (defArgs s_show_plain) (defBody s_show_plain) (defScope s_show_plain) .none kV1 dc1 pm1 an1 cd1 ct1), sl1⟩) (c1 : PySem.W.codeIn K cd1 "show_plain" = true) (k1 : PySem.W.keepIn K (.ref f1) = true)
    (a2 : PySem.W.nsIn K mainGlobals "_integer" = some (some (.ref f2))) (l2 : K.lookup f2 = some ⟨oc2, od2, .func (PySem.W.fnOf "_integer" "_integer" (defArgs s__integer) (defBody s__integer) (defScope s__integer) .none kV2 dc2 pm2 an2 cd2 ct2), sl2⟩) (c2 : PySem.W.codeIn K cd2 "_integer" = true) (k2 : PySem.W.keepIn K (.ref f2) = true)
    (a3 : PySem.W.nsIn K mainGlobals "_first_of" = some (some (.ref f3))) (l3 : K.lookup f3 = some ⟨oc3, od3, .func (PySem.W.fnOf "_first_of" "_first_of" (defArgs s__first_of) (defBody s__first_of) (defScope s__first_of) .none kV3 dc3 pm3 an3 cd3 ct3), sl3⟩) (c3 : PySem.W.codeIn K cd3 "_first_of" = true) (k3 : PySem.W.keepIn K (.ref f3) = true)
    (a4 : PySem.W.nsIn K mainGlobals "_unquoted" = some (some (.ref f4))) (l4 : K.lookup f4 = some ⟨oc4, od4, .func (PySem.W.fnOf "_unquoted" "_unquoted" (defArgs s__unquoted) (defBody s__unquoted) (defScope s__unquoted) .none kV4 dc4 pm4 an4 cd4 ct4), sl4⟩) (c4 : PySem.W.codeIn K cd4 "_unquoted" = true) (k4 : PySem.W.keepIn K (.ref f4) = true)
    (a5 : PySem.W.nsIn K mainGlobals "_value" = some (some (.ref f5))) (l5 : K.lookup f5 = some ⟨oc5, od5, .func (PySem.W.fnOf "_value" "_value" (defArgs s__value) (defBody s__value) (defScope s__value) .none kV5 dc5 pm5 an5 cd5 ct5), sl5⟩) (c5 : PySem.W.codeIn K cd5 "_value" = true) (k5 : PySem.W.keepIn K (.ref f5) = true)
    (a6 : PySem.W.nsIn K mainGlobals "_members" = some (some (.ref f6))) (l6 : K.lookup f6 = some ⟨oc6, od6, .func (PySem.W.fnOf "_members" "_members" (defArgs s__members) (defBody s__members) (defScope s__members) .none kV6 dc6 pm6 an6 cd6 ct6), sl6⟩) (c6 : PySem.W.codeIn K cd6 "_members" = true) (k6 : PySem.W.keepIn K (.ref f6) = true)
    (a7 : PySem.W.nsIn K mainGlobals "read_plain" = some (some (.ref f7))) (l7 : K.lookup f7 = some ⟨oc7, od7, .func (PySem.W.fnOf "read_plain" "read_plain" (defArgs s_read_plain) (defBody s_read_plain) (defScope s_read_plain) .none kV7 dc7 pm7 an7 cd7 ct7), sl7⟩) (c7 : PySem.W.codeIn K cd7 "read_plain" = true) (k7 : PySem.W.keepIn K (.ref f7) = true)
    (a8 : PySem.W.nsIn K mainGlobals "_law_cell" = some (some (.ref f8))) (l8 : K.lookup f8 = some ⟨oc8, od8, .func (PySem.W.fnOf "_law_cell" "_law_cell" (defArgs s__law_cell) (defBody s__law_cell) (defScope s__law_cell) .none kV8 dc8 pm8 an8 cd8 ct8), sl8⟩) (c8 : PySem.W.codeIn K cd8 "_law_cell" = true) (k8 : PySem.W.keepIn K (.ref f8) = true)
    (a9 : PySem.W.nsIn K mainGlobals "_law_digits" = some (some (.ref f9))) (l9 : K.lookup f9 = some ⟨oc9, od9, .func (PySem.W.fnOf "_law_digits" "_law_digits" (defArgs s__law_digits) (defBody s__law_digits) (defScope s__law_digits) .none kV9 dc9 pm9 an9 cd9 ct9), sl9⟩) (c9 : PySem.W.codeIn K cd9 "_law_digits" = true) (k9 : PySem.W.keepIn K (.ref f9) = true)
    (a10 : PySem.W.nsIn K mainGlobals "_law_draw" = some (some (.ref f10))) (l10 : K.lookup f10 = some ⟨oc10, od10, .func (PySem.W.fnOf "_law_draw" "_law_draw" (defArgs s__law_draw) (defBody s__law_draw) (defScope s__law_draw) .none kV10 dc10 pm10 an10 cd10 ct10), sl10⟩) (c10 : PySem.W.codeIn K cd10 "_law_draw" = true) (k10 : PySem.W.keepIn K (.ref f10) = true)
    (a11 : PySem.W.nsIn K mainGlobals "_law_same" = some (some (.ref f11))) (l11 : K.lookup f11 = some ⟨oc11, od11, .func (PySem.W.fnOf "_law_same" "_law_same" (defArgs s__law_same) (defBody s__law_same) (defScope s__law_same) .none kV11 dc11 pm11 an11 cd11 ct11), sl11⟩) (c11 : PySem.W.codeIn K cd11 "_law_same" = true) (k11 : PySem.W.keepIn K (.ref f11) = true)
    (a12 : PySem.W.nsIn K mainGlobals "_law_plain" = some (some (.ref f12))) (l12 : K.lookup f12 = some ⟨oc12, od12, .func (PySem.W.fnOf "_law_plain" "_law_plain" (defArgs s__law_plain) (defBody s__law_plain) (defScope s__law_plain) .none kV12 dc12 pm12 an12 cd12 ct12), sl12⟩) (c12 : PySem.W.codeIn K cd12 "_law_plain" = true) (k12 : PySem.W.keepIn K (.ref f12) = true)
    (a13 : PySem.W.nsIn K mainGlobals "_law_value" = some (some (.ref f13))) (l13 : K.lookup f13 = some ⟨oc13, od13, .func (PySem.W.fnOf "_law_value" "_law_value" (defArgs s__law_value) (defBody s__law_value) (defScope s__law_value) .none kV13 dc13 pm13 an13 cd13 ct13), sl13⟩) (c13 : PySem.W.codeIn K cd13 "_law_value" = true) (k13 : PySem.W.keepIn K (.ref f13) = true)
    (a14 : PySem.W.nsIn K mainGlobals "law" = some (some (.ref f14))) (l14 : K.lookup f14 = some ⟨oc14, od14, .func (PySem.W.fnOf "law" "law" (defArgs s_law) (defBody s_law) (defScope s_law) .none kV14 dc14 pm14 an14 cd14 ct14), sl14⟩) (c14 : PySem.W.codeIn K cd14 "law" = true) (k14 : PySem.W.keepIn K (.ref f14) = true)
    (z_bool : PySem.W.nsIn K mainGlobals "bool" = some none)
    (z_int : PySem.W.nsIn K mainGlobals "int" = some none)
    (z_isinstance : PySem.W.nsIn K mainGlobals "isinstance" = some none)
    (z_len : PySem.W.nsIn K mainGlobals "len" = some none)
    (z_range : PySem.W.nsIn K mainGlobals "range" = some none)
    (z_str : PySem.W.nsIn K mainGlobals "str" = some none)
    (z_tuple : PySem.W.nsIn K mainGlobals "tuple" = some none)
    (n_DEEPEST : PySem.W.nsIn K mainGlobals "DEEPEST" = some (some (.int 40 t_DEEPEST)))
    (n_DIGITS : PySem.W.nsIn K mainGlobals "DIGITS" = some (some (.str "0123456789" t_DIGITS)))
    (n_MOST_DIGITS : PySem.W.nsIn K mainGlobals "MOST_DIGITS" = some (some (.int 2000 t_MOST_DIGITS)))
    (n_ESCAPES : PySem.W.nsIn K mainGlobals "ESCAPES" = some (some (.ref d_ESCAPES))) (l_ESCAPES : K.lookup d_ESCAPES = some ⟨.type "dict", none, .dict es_ESCAPES m_ESCAPES, #[]⟩) (kl_ESCAPES : PySem.W.KeysLit w.params es_ESCAPES.toList) (lo_ESCAPES : (d_ESCAPES == sysModules) = false) (to_ESCAPES : TabOk es_ESCAPES.toList t_ESCAPES)
    (n_WORDS : PySem.W.nsIn K mainGlobals "WORDS" = some (some (.ref d_WORDS))) (l_WORDS : K.lookup d_WORDS = some ⟨.type "dict", none, .dict es_WORDS m_WORDS, #[]⟩) (kl_WORDS : PySem.W.KeysLit w.params es_WORDS.toList) (lo_WORDS : (d_WORDS == sysModules) = false) (to_WORDS : TabOk es_WORDS.toList t_WORDS)
    : ∃ fd : FuncData, (∀ (s : Shared) (v : Value), BindsTo s fd ⟨[v], []⟩ [("script", v)]) ∧ ∀ base : Heap, K.In base → base.Ns mainGlobals mg → FnOk l.prog w K mg base CX0 94 fa fd ["script"] (Pv.spLaw K) := by
  have e := hfa.symm.trans (PySem.W.mg_of X G a14)
  cases e
  have B : Bl mg := ⟨PySem.W.mg_none_of X G z_bool, PySem.W.mg_none_of X G z_int, PySem.W.mg_none_of X G z_isinstance, PySem.W.mg_none_of X G z_len, PySem.W.mg_none_of X G z_range, PySem.W.mg_none_of X G z_str, PySem.W.mg_none_of X G z_tuple⟩
  have C : Cs K w mg := ⟨⟨_, .int _, PySem.W.mg_of X G n_DEEPEST, ⟨_, rfl⟩, fun K G => .int _⟩, ⟨_, .str _, PySem.W.mg_of X G n_DIGITS, ⟨_, rfl⟩, fun K G => .str _⟩, ⟨_, .int _, PySem.W.mg_of X G n_MOST_DIGITS, ⟨_, rfl⟩, fun K G => .int _⟩, ⟨_, _, _, PySem.W.mg_of X G n_ESCAPES, ⟨l_ESCAPES, kl_ESCAPES, lo_ESCAPES⟩, to_ESCAPES⟩, ⟨_, _, _, PySem.W.mg_of X G n_WORDS, ⟨l_WORDS, kl_WORDS, lo_WORDS⟩, to_WORDS⟩⟩
  have F0 := fun_mk (x := "_quoted") (qual := "_quoted") (st := s__quoted) l0 c0 k0
  have T0 : Top K mg "_quoted" s__quoted ["value"] := ⟨f0, _, F0, PySem.W.mg_of X G a0, F0.binds (ps := ["value"]) fun _ _ _ _ _ _ us hl => match us, hl with | [_], _ => rfl⟩
  have F1 := fun_mk (x := "show_plain") (qual := "show_plain") (st := s_show_plain) l1 c1 k1
  have T1 : Top K mg "show_plain" s_show_plain ["value"] := ⟨f1, _, F1, PySem.W.mg_of X G a1, F1.binds (ps := ["value"]) fun _ _ _ _ _ _ us hl => match us, hl with | [_], _ => rfl⟩
  have F2 := fun_mk (x := "_integer") (qual := "_integer") (st := s__integer) l2 c2 k2
  have T2 : Top K mg "_integer" s__integer ["text", "place"] := ⟨f2, _, F2, PySem.W.mg_of X G a2, F2.binds (ps := ["text", "place"]) fun _ _ _ _ _ _ us hl => match us, hl with | [_, _], _ => rfl⟩
  have F3 := fun_mk (x := "_first_of") (qual := "_first_of") (st := s__first_of) l3 c3 k3
  have T3 : Top K mg "_first_of" s__first_of ["text", "place"] := ⟨f3, _, F3, PySem.W.mg_of X G a3, F3.binds (ps := ["text", "place"]) fun _ _ _ _ _ _ us hl => match us, hl with | [_, _], _ => rfl⟩
  have F4 := fun_mk (x := "_unquoted") (qual := "_unquoted") (st := s__unquoted) l4 c4 k4
  have T4 : Top K mg "_unquoted" s__unquoted ["text", "place"] := ⟨f4, _, F4, PySem.W.mg_of X G a4, F4.binds (ps := ["text", "place"]) fun _ _ _ _ _ _ us hl => match us, hl with | [_, _], _ => rfl⟩
  have F5 := fun_mk (x := "_value") (qual := "_value") (st := s__value) l5 c5 k5
  have T5 : Top K mg "_value" s__value ["text", "place", "depth"] := ⟨f5, _, F5, PySem.W.mg_of X G a5, F5.binds (ps := ["text", "place", "depth"]) fun _ _ _ _ _ _ us hl => match us, hl with | [_, _, _], _ => rfl⟩
  have F6 := fun_mk (x := "_members") (qual := "_members") (st := s__members) l6 c6 k6
  have T6 : Top K mg "_members" s__members ["text", "place", "depth"] := ⟨f6, _, F6, PySem.W.mg_of X G a6, F6.binds (ps := ["text", "place", "depth"]) fun _ _ _ _ _ _ us hl => match us, hl with | [_, _, _], _ => rfl⟩
  have F7 := fun_mk (x := "read_plain") (qual := "read_plain") (st := s_read_plain) l7 c7 k7
  have T7 : Top K mg "read_plain" s_read_plain ["text"] := ⟨f7, _, F7, PySem.W.mg_of X G a7, F7.binds (ps := ["text"]) fun _ _ _ _ _ _ us hl => match us, hl with | [_], _ => rfl⟩
  have F8 := fun_mk (x := "_law_cell") (qual := "_law_cell") (st := s__law_cell) l8 c8 k8
  have T8 : Top K mg "_law_cell" s__law_cell ["script", "k"] := ⟨f8, _, F8, PySem.W.mg_of X G a8, F8.binds (ps := ["script", "k"]) fun _ _ _ _ _ _ us hl => match us, hl with | [_, _], _ => rfl⟩
  have F9 := fun_mk (x := "_law_digits") (qual := "_law_digits") (st := s__law_digits) l9 c9 k9
  have T9 : Top K mg "_law_digits" s__law_digits ["script", "first", "last"] := ⟨f9, _, F9, PySem.W.mg_of X G a9, F9.binds (ps := ["script", "first", "last"]) fun _ _ _ _ _ _ us hl => match us, hl with | [_, _, _], _ => rfl⟩
  have F10 := fun_mk (x := "_law_draw") (qual := "_law_draw") (st := s__law_draw) l10 c10 k10
  have T10 : Top K mg "_law_draw" s__law_draw ["box", "many"] := ⟨f10, _, F10, PySem.W.mg_of X G a10, F10.binds (ps := ["box", "many"]) fun _ _ _ _ _ _ us hl => match us, hl with | [_, _], _ => rfl⟩
  have F11 := fun_mk (x := "_law_same") (qual := "_law_same") (st := s__law_same) l11 c11 k11
  have T11 : Top K mg "_law_same" s__law_same ["actual", "due"] := ⟨f11, _, F11, PySem.W.mg_of X G a11, F11.binds (ps := ["actual", "due"]) fun _ _ _ _ _ _ us hl => match us, hl with | [_, _], _ => rfl⟩
  have F12 := fun_mk (x := "_law_plain") (qual := "_law_plain") (st := s__law_plain) l12 c12 k12
  have T12 : Top K mg "_law_plain" s__law_plain ["value"] := ⟨f12, _, F12, PySem.W.mg_of X G a12, F12.binds (ps := ["value"]) fun _ _ _ _ _ _ us hl => match us, hl with | [_], _ => rfl⟩
  have F13 := fun_mk (x := "_law_value") (qual := "_law_value") (st := s__law_value) l13 c13 k13
  have T13 : Top K mg "_law_value" s__law_value ["box", "deep"] := ⟨f13, _, F13, PySem.W.mg_of X G a13, F13.binds (ps := ["box", "deep"]) fun _ _ _ _ _ _ us hl => match us, hl with | [_, _], _ => rfl⟩
  have F14 := fun_mk (x := "law") (qual := "law") (st := s_law) l14 c14 k14
  refine ⟨PySem.W.fnOf "law" "law" (defArgs s_law) (defBody s_law) (defScope s_law) .none kV14 dc14 pm14 an14 cd14 ct14, fun s v => .of_eq rfl, fun base _ _ => ?_⟩
  have H__quoted := ok__quoted (P := l.prog) (w := w) (K := K) (mg := mg) (base := base) B C T0 
  have H_show_plain := ok_show_plain (P := l.prog) (w := w) (K := K) (mg := mg) (base := base) B C T1 H__quoted 60
  have H__integer := ok__integer (P := l.prog) (w := w) (K := K) (mg := mg) (base := base) B C T2 
  have H__first_of := ok__first_of (P := l.prog) (w := w) (K := K) (mg := mg) (base := base) B C T3 
  have H__unquoted := ok__unquoted (P := l.prog) (w := w) (K := K) (mg := mg) (base := base) B C T4 H__first_of
  obtain ⟨H__value, H__members⟩ := ok__value (P := l.prog) (w := w) (K := K) (mg := mg) (base := base) B C T5 T6 H__integer H__unquoted 90
  have H_read_plain := ok_read_plain (P := l.prog) (w := w) (K := K) (mg := mg) (base := base) B C T7 H__value
  have H__law_cell := ok__law_cell (P := l.prog) (w := w) (K := K) (mg := mg) (base := base) B C T8 
  have H__law_digits := ok__law_digits (P := l.prog) (w := w) (K := K) (mg := mg) (base := base) B C T9 H__law_cell
  have H__law_draw := ok__law_draw (P := l.prog) (w := w) (K := K) (mg := mg) (base := base) B C T10 
  have H__law_same := ok__law_same (P := l.prog) (w := w) (K := K) (mg := mg) (base := base) B C T11  60
  have H__law_plain := ok__law_plain (P := l.prog) (w := w) (K := K) (mg := mg) (base := base) B C T12  60
  have H__law_value := ok__law_value (P := l.prog) (w := w) (K := K) (mg := mg) (base := base) B C T13 H__law_draw 60
  exact Pv.law_ok (c := c_law) (ok_lawF (P := l.prog) (w := w) (K := K) (mg := mg) (base := base) B C F14 H__law_digits H__law_value H__law_plain H__law_draw H__law_same H_show_plain H_read_plain) rfl fun ns hns => F_law ns
end Law
open PySem PySem.W PyProof.Rows
set_option maxRecDepth 100000 in
set_option maxHeartbeats 0 in
theorem PySem.Challenge.cw_seawise_k34_plain_there_and_back_holds : PySem.Challenge.rw_seawise_k34_plain_there_and_back.Holds := by
  w_on; o_law; k_head; (case hw => w_witness2)
  k_fill
  refine L2.walk_of (l := PySem.Challenge.rw_seawise_k34_plain_there_and_back) (n := 63) (k := 94) (x := "script") (CX := fun _ => L2.CX0) (sp := fun w => Pv.spLaw _) rfl (by decide) rfl ⟨rfl, by decide, by decide⟩ (fun w h Y => PySem.W.kIn_of Y) ?F (fun _ _ a ns hl _ hS => ⟨a, ns, rfl, hS, hl, fun _ => rfl⟩) (fun _ _ _ _ _ h => h)
  case F =>
    intro w mg fa h KX G hmg
    refine' Law.all_mk KX G hmg ?a0 ?l0 ?c0 ?k0 ?a1 ?l1 ?c1 ?k1 ?a2 ?l2 ?c2 ?k2 ?a3 ?l3 ?c3 ?k3 ?a4 ?l4 ?c4 ?k4 ?a5 ?l5 ?c5 ?k5 ?a6 ?l6 ?c6 ?k6 ?a7 ?l7 ?c7 ?k7 ?a8 ?l8 ?c8 ?k8 ?a9 ?l9 ?c9 ?k9 ?a10 ?l10 ?c10 ?k10 ?a11 ?l11 ?c11 ?k11 ?a12 ?l12 ?c12 ?k12 ?a13 ?l13 ?c13 ?k13 ?a14 ?l14 ?c14 ?k14 ?z_bool ?z_int ?z_isinstance ?z_len ?z_range ?z_str ?z_tuple ?n_DEEPEST ?n_DIGITS ?n_MOST_DIGITS ?n_ESCAPES ?l_ESCAPES ?kl_ESCAPES ?lo_ESCAPES ?to_ESCAPES ?n_WORDS ?l_WORDS ?kl_WORDS ?lo_WORDS ?to_WORDS
    (case a0 => k_is)
    (case l0 => k_is)
    (case c0 => k_is)
    (case k0 => k_is)
    (case a1 => k_is)
    (case l1 => k_is)
    (case c1 => k_is)
    (case k1 => k_is)
    (case a2 => k_is)
    (case l2 => k_is)
    (case c2 => k_is)
    (case k2 => k_is)
    (case a3 => k_is)
    (case l3 => k_is)
    (case c3 => k_is)
    (case k3 => k_is)
    (case a4 => k_is)
    (case l4 => k_is)
    (case c4 => k_is)
    (case k4 => k_is)
    (case a5 => k_is)
    (case l5 => k_is)
    (case c5 => k_is)
    (case k5 => k_is)
    (case a6 => k_is)
    (case l6 => k_is)
    (case c6 => k_is)
    (case k6 => k_is)
    (case a7 => k_is)
    (case l7 => k_is)
    (case c7 => k_is)
    (case k7 => k_is)
    (case a8 => k_is)
    (case l8 => k_is)
    (case c8 => k_is)
    (case k8 => k_is)
    (case a9 => k_is)
    (case l9 => k_is)
    (case c9 => k_is)
    (case k9 => k_is)
    (case a10 => k_is)
    (case l10 => k_is)
    (case c10 => k_is)
    (case k10 => k_is)
    (case a11 => k_is)
    (case l11 => k_is)
    (case c11 => k_is)
    (case k11 => k_is)
    (case a12 => k_is)
    (case l12 => k_is)
    (case c12 => k_is)
    (case k12 => k_is)
    (case a13 => k_is)
    (case l13 => k_is)
    (case c13 => k_is)
    (case k13 => k_is)
    (case a14 => k_is)
    (case l14 => k_is)
    (case c14 => k_is)
    (case k14 => k_is)
    (case z_bool => k_is)
    (case z_int => k_is)
    (case z_isinstance => k_is)
    (case z_len => k_is)
    (case z_range => k_is)
    (case z_str => k_is)
    (case z_tuple => k_is)
    (case n_DEEPEST => k_is)
    (case n_DIGITS => k_is)
    (case n_MOST_DIGITS => k_is)
    (case n_ESCAPES => k_is)
    (case l_ESCAPES => k_is)
    (case kl_ESCAPES => exact ⟨⟨_, _, rfl, rfl⟩, ⟨_, _, rfl, rfl⟩, ⟨_, _, rfl, rfl⟩, trivial⟩)
    (case lo_ESCAPES => rfl)
    (case to_ESCAPES => exact .cons (v := .str "\"") rfl ⟨_, rfl⟩ (fun _ _ => .str _) (.cons (v := .str "\\") rfl ⟨_, rfl⟩ (fun _ _ => .str _) (.cons (v := .str "\n") rfl ⟨_, rfl⟩ (fun _ _ => .str _) .nil)))
    (case n_WORDS => k_is)
    (case l_WORDS => k_is)
    (case kl_WORDS => exact ⟨⟨_, _, rfl, rfl⟩, ⟨_, _, rfl, rfl⟩, ⟨_, _, rfl, rfl⟩, trivial⟩)
    (case lo_WORDS => rfl)
    (case to_WORDS => exact .cons (v := .bl true) rfl rfl (fun _ _ => .bl _) (.cons (v := .bl false) rfl rfl (fun _ _ => .bl _) (.cons (v := .non) rfl rfl (fun _ _ => .non) .nil)))
