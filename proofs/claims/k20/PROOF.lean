import PyProof.Rows.All
import Wide.All
import OpenK.AllK
import Wide.FinOn
import HandS.ForMost
import HandS.Deep
import HandS.Gcd
import HandS.Conv
import HandS.TupAny
import HandS.SortInts
import HandS.IsInst
import HandS.Wide
import HandS.RaiseMore
import HandS.Style
import HandS.Zip
import KE.GoesMore
import KE.GoesEnum
import HandS.Steps
import HandS.Ends
import PySem.Challenge.RW_howmuchdearer_k20_whole_numbers_and_base
set_option Elab.async false
set_option linter.all false
set_option maxRecDepth 100000
set_option maxHeartbeats 4000000
/-! # The pure layer: values are data (PyData), lists of a frame's own are its slots' contents, the heap is out of sight -/
namespace PL
open PySem PySem.Spec PyProof.Rows L2
open Classical

abbrev D := PyData
mutual
/-- no list, no dict anywhere within -/
def lf : D → Bool
  | .none => true
  | .bool _ => true
  | .int _ => true
  | .str _ => true
  | .list _ => false
  | .tuple ds => lfs ds
  | .dict _ => false
def lfs : List D → Bool
  | [] => true
  | d :: ds => lf d && lfs ds
end

mutual
/-- a value is this datum: its lists and tuples stand in this part of the heap -/
inductive Dq (K : PySem.W.Frag) (G : Hp) : V → D → Prop
  | non : Dq K G .non .none
  | bl (b : Bool) : Dq K G (.bl b) (.bool b)
  | int (i : Int) : Dq K G (.int i) (.int i)
  | str (x : Str) : Dq K G (.str x) (.str x)
  | lst {a : Addr} {xs : List V} {ds : List D} : G a = some (.lst xs) → DqAll K G xs ds → Dq K G (.ref a) (.list ds)
  | tup {a : Addr} {xs : List V} {ds : List D} : SqT K G a xs → DqAll K G xs ds → Dq K G (.ref a) (.tuple ds)
inductive DqAll (K : PySem.W.Frag) (G : Hp) : List V → List D → Prop
  | nil : DqAll K G [] []
  | cons {v : V} {vs : List V} {d : D} {ds : List D} : Dq K G v d → DqAll K G vs ds → DqAll K G (v :: vs) (d :: ds)
end
/-- what a slot holds: nothing known, a value, a list that is the frame's own, the pot of draws -/
inductive Sl where
  | un
  | val (d : D)
  | own (ds : List D)
  | pot
  | kn (v : V)
abbrev En := List Sl

/-- the pot: digits left, a seed, how many draws there were -/
def PotAt (n : Nat) (H : Hp) (p : Addr) : Prop :=
  ∃ x y z : Int, H p = some (.lst [.int x, .int y, .int z]) ∧ 0 ≤ x ∧ x < 10 ^ 300 ∧ 0 ≤ y ∧ y < 2305843009213693921 ∧ 0 ≤ z ∧ z ≤ n
def PotOk (pt : Option Addr) (n : Nat) (F H : Hp) : Prop := ∀ p, pt = some p → F p = none ∧ PotAt n H p

/-- the heap goes on: the frozen part grows by what is new, all but the pot stays -/
structure Stp (pt : Option Addr) (n : Nat) (F H F' H' : Hp) : Prop where
  fz : ∀ a o, F a = some o → F' a = some o
  sub : ∀ a o, F' a = some o → H' a = some o
  keep : ∀ a o, pt ≠ some a → H a = some o → H' a = some o
  new : ∀ a, F' a ≠ none → F a ≠ none ∨ H a = none
  pot : PotOk pt n F' H'

/-- what stood at the entry of the frame -/
structure Bs where
  F0 : Hp
  H0 : Hp
  pt : Option Addr

def SlOk (K : PySem.W.Frag) (b : Bs) (F H : Hp) : Option V → Sl → Prop
  | _, .un => True
  | some v, .val d => Dq K F v d
  | some v, .own ds => ∃ a xs, v = .ref a ∧ F a = none ∧ b.H0 a = none ∧ b.pt ≠ some a ∧ H a = some (.lst xs) ∧ DqAll K F xs ds
  | some v, .pot => ∃ p, b.pt = some p ∧ v = .ref p
  | some v, .kn w => v = w
  | none, _ => False

structure Rel (K : PySem.W.Frag) (b : Bs) (F H : Hp) (σ : L2.St) (e : En) (n : Nat) : Prop where
  len : σ.length = e.length
  base : Stp b.pt n b.F0 b.H0 F H
  slot : ∀ (i : Nat) (s : Sl), e[i]? = some s → ∃ v, σ[i]? = some v ∧ SlOk K b F H v s
  sep : ∀ (i j : Nat) ds ds' (a : Addr), e[i]? = some (.own ds) → e[j]? = some (.own ds') → σ[i]? = some (some (.ref a)) → σ[j]? = some (some (.ref a)) → i = j

/-- the address is that of a list of the frame's own -/
def Mine (σ : L2.St) (e : En) (a : Addr) : Prop := ∃ (i : Nat) (ds : List D), e[i]? = some (.own ds) ∧ σ[i]? = some (some (.ref a))
/-- the frozen part and the frame's own lists as they stand -/
noncomputable def plus (F H : Hp) (σ : L2.St) (e : En) : Hp := fun a => if Mine σ e a then H a else F a

section
variable {K : PySem.W.Frag} {b : Bs} {F H F' H' G G' : Hp} {σ : L2.St} {e : En} {n n' : Nat} {pt : Option Addr}

theorem SlOk.own_at {v : Option V} {ds : List D} (h : SlOk K b F H v (.own ds)) : ∃ a xs, v = some (.ref a) ∧ F a = none ∧ b.H0 a = none ∧ b.pt ≠ some a ∧ H a = some (.lst xs) ∧ DqAll K F xs ds := by
  cases v with
  | none => exact False.elim h
  | some v =>
    obtain ⟨a, xs, h1, h2⟩ := h
    exact ⟨a, xs, by rw [h1], h2⟩
theorem Rel.mine (R : Rel K b F H σ e n) {a : Addr} (m : Mine σ e a) : ∃ (i : Nat) (ds : List D) (xs : List V), e[i]? = some (.own ds) ∧ σ[i]? = some (some (.ref a)) ∧ F a = none ∧ b.H0 a = none ∧ b.pt ≠ some a ∧ H a = some (.lst xs) ∧ DqAll K F xs ds := by
  obtain ⟨i, ds, h1, h2⟩ := m
  obtain ⟨v, h3, h4⟩ := R.slot i _ h1
  rw [h2] at h3
  cases h3
  obtain ⟨a', xs, e1, h5⟩ := h4.own_at
  cases e1
  exact ⟨i, ds, xs, h1, h2, h5⟩
theorem Stp.refl (hs : ∀ a o, F a = some o → H a = some o) (hp : PotOk pt n F H) : Stp pt n F H F H :=
  ⟨fun _ _ h => h, hs, fun _ _ _ h => h, fun _ h => .inl h, hp⟩
theorem Stp.trans {F1 H1 F2 H2 : Hp} (a : Stp pt n F H F1 H1) (c : Stp pt n' F1 H1 F2 H2) : Stp pt n' F H F2 H2 where
  fz := fun x o h => c.fz x o (a.fz x o h)
  sub := c.sub
  keep := fun x o hp h => c.keep x o hp (a.keep x o hp h)
  new := fun x h => by
    rcases c.new x h with h1 | h1
    · exact a.new x h1
    · right
      cases q : H x with
      | none => rfl
      | some o =>
        by_cases hp : pt = some x
        · exfalso
          exact h (c.pot x hp).1
        · rw [a.keep x o hp q] at h1
          cases h1
  pot := c.pot
mutual
theorem Dq.mono (hs : ∀ a o, G a = some o → G' a = some o) : ∀ {v : V} {d : D}, Dq K G v d → Dq K G' v d
  | _, _, .non => .non
  | _, _, .bl b => .bl b
  | _, _, .int i => .int i
  | _, _, .str x => .str x
  | _, _, .lst h1 h2 => .lst (hs _ _ h1) (DqAll.mono hs h2)
  | _, _, .tup h1 h2 => .tup (by
      rcases h1 with (h | ⟨o, h⟩) | h
      · exact .inl (.inl (hs _ _ h))
      · exact .inl (.inr ⟨o, hs _ _ h⟩)
      · exact .inr h) (DqAll.mono hs h2)
theorem DqAll.mono (hs : ∀ a o, G a = some o → G' a = some o) : ∀ {vs : List V} {ds : List D}, DqAll K G vs ds → DqAll K G' vs ds
  | _, _, .nil => .nil
  | _, _, .cons h t => .cons (Dq.mono hs h) (DqAll.mono hs t)
end
theorem DqAll.length : ∀ {vs : List V} {ds : List D}, DqAll K G vs ds → vs.length = ds.length
  | _, _, .nil => rfl
  | _, _, .cons _ t => congrArg (· + 1) t.length
theorem DqAll.append : ∀ {vs ws : List V} {ds es : List D}, DqAll K G vs ds → DqAll K G ws es → DqAll K G (vs ++ ws) (ds ++ es)
  | _, _, _, _, .nil, h => h
  | _, _, _, _, .cons h t, h2 => .cons h (t.append h2)
theorem DqAll.get : ∀ {vs : List V} {ds : List D} {i : Nat} {d : D}, DqAll K G vs ds → ds[i]? = some d → ∃ v, vs[i]? = some v ∧ Dq K G v d
  | _, _, _, _, .nil, e => by simp at e
  | _, _, 0, _, .cons h t, e => by simp at e; subst e; exact ⟨_, rfl, h⟩
  | _, _, i + 1, _, .cons h t, e => by
    obtain ⟨v, h1, h2⟩ := t.get (i := i) (by simpa using e)
    exact ⟨v, by simpa using h1, h2⟩
theorem DqAll.getV : ∀ {vs : List V} {ds : List D} {i : Nat} {v : V}, DqAll K G vs ds → vs[i]? = some v → ∃ d, ds[i]? = some d ∧ Dq K G v d
  | _, _, _, _, .nil, e => by simp at e
  | _, _, 0, _, .cons h t, e => by simp at e; subst e; exact ⟨_, rfl, h⟩
  | _, _, i + 1, _, .cons h t, e => by
    obtain ⟨v, h1, h2⟩ := t.getV (i := i) (by simpa using e)
    exact ⟨v, by simpa using h1, h2⟩
theorem DqAll.take : ∀ {vs : List V} {ds : List D} (k : Nat), DqAll K G vs ds → DqAll K G (vs.take k) (ds.take k)
  | _, _, 0, _ => .nil
  | _, _, _ + 1, .nil => .nil
  | _, _, k + 1, .cons h t => .cons h (t.take k)
theorem DqAll.drop : ∀ {vs : List V} {ds : List D} (k : Nat), DqAll K G vs ds → DqAll K G (vs.drop k) (ds.drop k)
  | _, _, 0, h => h
  | _, _, _ + 1, .nil => .nil
  | _, _, k + 1, .cons _ t => t.drop k
theorem DqAll.set : ∀ {vs : List V} {ds : List D} {v : V} {d : D} (i : Nat), DqAll K G vs ds → Dq K G v d → DqAll K G (vs.set i v) (ds.set i d)
  | _, _, _, _, _, .nil, _ => .nil
  | _, _, _, _, 0, .cons h t, h2 => .cons h2 t
  | _, _, _, _, i + 1, .cons h t, h2 => .cons h (t.set i h2)
theorem DqAll.eraseIdx : ∀ {vs : List V} {ds : List D} (i : Nat), DqAll K G vs ds → DqAll K G (vs.eraseIdx i) (ds.eraseIdx i)
  | _, _, _, .nil => .nil
  | _, _, 0, .cons _ t => t
  | _, _, i + 1, .cons h t => .cons h (t.eraseIdx i)
theorem DqAll.reverse {vs : List V} {ds : List D} (h : DqAll K G vs ds) : DqAll K G vs.reverse ds.reverse := by
  induction vs generalizing ds with
  | nil => cases h; exact .nil
  | cons v vs ih =>
    cases h with
    | cons h t =>
      rw [List.reverse_cons, List.reverse_cons]
      exact (ih t).append (.cons h .nil)
theorem Rel.plusF (R : Rel K b F H σ e n) : ∀ a o, F a = some o → plus F H σ e a = some o := fun a o h => by
  unfold plus
  by_cases m : Mine σ e a
  · obtain ⟨_, _, _, _, _, h1, _⟩ := R.mine m
    rw [h1] at h; cases h
  · rw [if_neg m]; exact h
theorem Rel.plusH (R : Rel K b F H σ e n) : ∀ a o, plus F H σ e a = some o → H a = some o := fun a o h => by
  unfold plus at h
  by_cases m : Mine σ e a
  · rw [if_pos m] at h; exact h
  · rw [if_neg m] at h; exact R.base.sub a o h
theorem SlOk.step {v : Option V} {s : Sl} (st : Stp b.pt n' F H F' H') (h : SlOk K b F H v s) : SlOk K b F' H' v s := by
  cases s with
  | un => trivial
  | val d =>
    cases v with
    | none => exact False.elim h
    | some v => exact Dq.mono st.fz h
  | own ds =>
    cases v with
    | none => exact False.elim h
    | some v =>
      obtain ⟨a, xs, h1, h2, h3, h4, h5, h6⟩ := h
      refine ⟨a, xs, h1, ?_, h3, h4, st.keep a _ h4 h5, DqAll.mono st.fz h6⟩
      cases q : F' a with
      | none => rfl
      | some o =>
        rcases st.new a (by rw [q]; simp) with z | z
        · exact absurd h2 z
        · rw [h5] at z; cases z
  | pot =>
    cases v with
    | none => exact False.elim h
    | some v => exact h
  | kn w =>
    cases v with
    | none => exact False.elim h
    | some v => exact h
theorem Rel.step (R : Rel K b F H σ e n) (st : Stp b.pt n' F H F' H') : Rel K b F' H' σ e n' :=
  ⟨R.len, R.base.trans st, fun i s h => let ⟨v, h1, h2⟩ := R.slot i s h; ⟨v, h1, h2.step st⟩, R.sep⟩
theorem Rel.plus_mono (R : Rel K b F H σ e n) (st : Stp b.pt n' F H F' H') : ∀ a o, plus F H σ e a = some o → plus F' H' σ e a = some o := fun a o h => by
  unfold plus at h ⊢
  by_cases m : Mine σ e a
  · rw [if_pos m] at h ⊢
    obtain ⟨_, _, _, _, _, _, _, h4, _⟩ := R.mine m
    exact st.keep a o h4 h
  · rw [if_neg m] at h ⊢
    exact st.fz a o h
/-- something new is laid and frozen -/
theorem Stp.lay {p : Addr} {o : HO} (hs : ∀ a o, F a = some o → H a = some o) (hp : H p = none) (ho : PotOk pt n F H) : Stp pt n F H (upd F p o) (upd H p o) where
  fz := fun a u h => by rw [upd_ne (ne_of_none (hs a u h) hp)]; exact h
  sub := fun a u h => by
    by_cases q : a = p
    · subst q; rw [upd_same] at h ⊢; exact h
    · rw [upd_ne q] at h ⊢; exact hs a u h
  keep := fun a u _ h => by rw [upd_ne (ne_of_none h hp)]; exact h
  new := fun a h => by
    by_cases q : a = p
    · subst q; exact .inr hp
    · rw [upd_ne q] at h; exact .inl h
  pot := fun q hq => by
    obtain ⟨h1, x, y, z, h2, h3⟩ := ho q hq
    have ne : q ≠ p := ne_of_none h2 hp
    exact ⟨by rw [upd_ne ne]; exact h1, x, y, z, by rw [upd_ne ne]; exact h2, h3⟩
theorem Rel.sub (R : Rel K b F H σ e n) : ∀ a o, F a = some o → H a = some o := R.base.sub
theorem Rel.pot (R : Rel K b F H σ e n) : PotOk b.pt n F H := R.base.pot
theorem Rel.refl (R : Rel K b F H σ e n) : Stp b.pt n F H F H := Stp.refl R.sub R.pot
theorem Rel.lay (R : Rel K b F H σ e n) {p : Addr} {o : HO} (hp : H p = none) : Stp b.pt n F H (upd F p o) (upd H p o) := Stp.lay R.sub hp R.pot
theorem Rel.plus_lay (R : Rel K b F H σ e n) {p : Addr} {o : HO} (hp : H p = none) : plus (upd F p o) (upd H p o) σ e p = some o := by
  have nm : ¬ Mine σ e p := fun m => by
    obtain ⟨_, _, _, _, _, _, _, _, h, _⟩ := R.mine m
    rw [hp] at h; cases h
  unfold plus
  rw [if_neg nm, upd_same]
mutual
/-- what holds no list stands in the frozen part -/
theorem Rel.lf_fz (R : Rel K b F H σ e n) : ∀ {v : V} {d : D}, Dq K (plus F H σ e) v d → lf d = true → Dq K F v d
  | _, _, .non, _ => .non
  | _, _, .bl b, _ => .bl b
  | _, _, .int i, _ => .int i
  | _, _, .str x, _ => .str x
  | _, _, .lst h1 h2, h => by simp [lf] at h
  | _, _, .tup (a := a) h1 h2, h => by
    refine .tup ?_ (R.lfs_fz h2 (by simpa [lf] using h))
    have key : ∀ u, plus F H σ e a = some u → (∀ xs, u ≠ .lst xs) → F a = some u := fun u hu hn => by
      unfold plus at hu
      by_cases m : Mine σ e a
      · rw [if_pos m] at hu
        obtain ⟨_, _, xs, _, _, _, _, _, h, _⟩ := R.mine m
        rw [h] at hu; cases hu
        exact absurd rfl (hn xs)
      · rw [if_neg m] at hu; exact hu
    rcases h1 with (h | ⟨o, h⟩) | h
    · exact .inl (.inl (key _ h (fun _ z => by cases z)))
    · exact .inl (.inr ⟨o, key _ h (fun _ z => by cases z)⟩)
    · exact .inr h
theorem Rel.lfs_fz (R : Rel K b F H σ e n) : ∀ {vs : List V} {ds : List D}, DqAll K (plus F H σ e) vs ds → lfs ds = true → DqAll K F vs ds
  | _, _, .nil, _ => .nil
  | _, _, .cons h t, q => by
    have q' := q
    simp only [lfs, Bool.and_eq_true] at q'
    exact .cons (R.lf_fz h q'.1) (R.lfs_fz t q'.2)
end
/-- all own lists become values -/
def frz1 : Sl → Sl
  | .own ds => .val (.list ds)
  | s => s
def frz (e : En) : En := e.map frz1
theorem Rel.freeze (R : Rel K b F H σ e n) : Rel K b (plus F H σ e) H σ (frz e) n where
  len := by unfold frz; rw [List.length_map]; exact R.len
  base := {
    fz := fun a o h => R.plusF a o (R.base.fz a o h)
    sub := R.plusH
    keep := R.base.keep
    new := fun a h => by
      unfold plus at h
      by_cases m : Mine σ e a
      · obtain ⟨_, _, _, _, _, _, h0, _⟩ := R.mine m
        exact .inr h0
      · rw [if_neg m] at h; exact R.base.new a h
    pot := fun p hp => by
      obtain ⟨h1, h2⟩ := R.pot p hp
      refine ⟨?_, h2⟩
      unfold plus
      by_cases m : Mine σ e p
      · obtain ⟨_, _, _, _, _, _, _, h3, _⟩ := R.mine m
        exact absurd hp h3
      · rw [if_neg m]; exact h1 }
  slot := fun i s h => by
    unfold frz at h
    rw [List.getElem?_map] at h
    cases q : e[i]? with
    | none => rw [q] at h; cases h
    | some s0 =>
      rw [q] at h
      obtain ⟨v, h1, h2⟩ := R.slot i s0 q
      refine ⟨v, h1, ?_⟩
      have hs : frz1 s0 = s := Option.some.inj h
      subst hs
      cases s0 with
      | un => trivial
      | val d =>
        cases v with
        | none => exact False.elim h2
        | some v => exact Dq.mono R.plusF h2
      | own ds =>
        obtain ⟨a, xs, e1, f1, f2, f3, f4, f5⟩ := h2.own_at
        subst e1
        show Dq K _ _ _
        refine .lst ?_ (DqAll.mono R.plusF f5)
        unfold plus
        rw [if_pos ⟨i, ds, q, h1⟩]
        exact f4
      | pot =>
        cases v with
        | none => exact False.elim h2
        | some v => exact h2
      | kn w =>
        cases v with
        | none => exact False.elim h2
        | some v => exact h2
  sep := fun i j ds ds' a h => by
    exfalso
    unfold frz at h
    rw [List.getElem?_map] at h
    cases q : e[i]? with
    | none => rw [q] at h; cases h
    | some s0 =>
      rw [q] at h
      have hs : frz1 s0 = .own ds := Option.some.inj h
      cases s0 <;> cases hs
/-- no own list -/
def noOwn : En → Bool
  | [] => true
  | .own _ :: _ => false
  | _ :: e => noOwn e
theorem noOwn_no : ∀ {e : En}, noOwn e = true → ∀ (i : Nat) (ds : List D), e[i]? ≠ some (.own ds)
  | [], _, i, ds, h => by simp at h
  | s :: e, h, 0, ds, q => by
    have q' : s = .own ds := by simpa using q
    subst q'
    simp [noOwn] at h
  | s :: e, h, i + 1, ds, q => by
    have h' : noOwn e = true := by cases s <;> simp_all [noOwn]
    exact noOwn_no h' i ds (by simpa using q)
theorem plus_noOwn (h : noOwn e = true) : plus F H σ e = F := by
  funext a
  unfold plus
  rw [if_neg]
  rintro ⟨i, ds, h1, _⟩
  exact noOwn_no h i ds h1
theorem frz_noOwn : ∀ {e : En}, noOwn e = true → frz e = e
  | [], _ => rfl
  | s :: e, h => by
    have h' : noOwn e = true := by cases s <;> simp_all [noOwn]
    have ih := frz_noOwn h'
    unfold frz at ih ⊢
    rw [List.map_cons, ih]
    cases s <;> simp_all [noOwn, frz1]
mutual
theorem Dq.toDp (hs : ∀ a o, G a = some o → H a = some o) : ∀ {v : V} {d : D}, Dq K G v d → Dp K H v d
  | _, _, .non => .non
  | _, _, .bl b => .bl b
  | _, _, .int i => .int i
  | _, _, .str x => .str x
  | _, _, .lst h1 h2 => .lst (.inl (.inl (hs _ _ h1))) (DqAll.toDp hs h2)
  | _, _, .tup h1 h2 => .tup (by
      rcases h1 with (h | ⟨o, h⟩) | h
      · exact .inl (.inl (hs _ _ h))
      · exact .inl (.inr ⟨o, hs _ _ h⟩)
      · exact .inr h) (DqAll.toDp hs h2)
theorem DqAll.toDp (hs : ∀ a o, G a = some o → H a = some o) : ∀ {vs : List V} {ds : List D}, DqAll K G vs ds → DpAll K H vs ds
  | _, _, .nil => .nil
  | _, _, .cons h t => .cons (Dq.toDp hs h) (DqAll.toDp hs t)
end
end
end PL

set_option Elab.async false
set_option linter.all false
set_option maxRecDepth 100000
set_option maxHeartbeats 4000000
/-! ## Defs whose callers are in no repr: FnG -/
namespace PL
open PySem PySem.Spec PyProof.Rows L2

structure FnG (P : Program) (w : World) (K : PySem.W.Frag) (mg : Str → Option Value) (base : Heap) (CX : CXT) (k : Nat) (f : Addr) (fd : FuncData) (ps : List Str) (sp : Sp) : Prop where
  len : ∀ vs H Q E, sp vs H Q E → vs.length = ps.length
  run : ∀ (A : Around) (outer : List Env) (s : Shared) (H : Hp) (args : Args) (us : List Value) (vs : List V) (Q : VK) (E : XK), Room k A → A.guards = some [] →
    Env0 P w K mg base A outer s H → BindsTo s fd args (ps.zip us) → Vals vs us → sp vs H Q E → codeAny (model P w) A (.call (.ref f) args) (CR CX outer P w H s Q E) s

section
variable {P : Program} {w : World} {K : PySem.W.Frag} {mg : Str → Option Value} {base : Heap} {CX : CXT}
theorem FnG.mono {j k : Nat} {f : Addr} {fd : FuncData} {ps : List Str} {sp : Sp} (F : FnG P w K mg base CX j f fd ps sp) (h : j ≤ k) : FnG P w K mg base CX k f fd ps sp :=
  ⟨F.len, fun A o s H args us vs Q E hr => F.run A o s H args us vs Q E (hr.mono h)⟩
theorem FnG.imp {k : Nat} {f : Addr} {fd : FuncData} {ps : List Str} {sp sp' : Sp} (F : FnG P w K mg base CX k f fd ps sp) (h : ∀ vs H Q E, sp' vs H Q E → sp vs H Q E) : FnG P w K mg base CX k f fd ps sp' :=
  ⟨fun vs H Q E q => F.len vs H Q E (h _ _ _ _ q), fun A o s H args us vs Q E hr hg he hb hv hs => F.run A o s H args us vs Q E hr hg he hb hv (h _ _ _ _ hs)⟩

/-- a def by its body's term and reading -/
theorem fnG {x qual : Str} {st : Stmt} {f : Addr} {fd : FuncData} {N ps : List Str} {k : Nat} {sp : Sp} (F : Fun K x qual st f fd) (S : FnScope N ps (defScope st)) (len : ∀ vs H Q E, sp vs H Q E → vs.length = ps.length)
    (hbody : ∀ (cdv : Value) (A : Around) (outer : List Env) (s : Shared) (H : Hp) (vs : List V) (Q : VK) (E : XK), Room k (A.deeper (envOfC qual (defScope st) s.heap.objs.size f cdv)) → A.guards = some [] → sp vs H Q E →
      ∃ t, PSs (cxOf CX P w K mg base N qual (defScope st) f cdv A outer s H E) (defBody st) t ∧ t { nx := fun _ H' => Q .non H', rt := Q } (start N vs) H) :
    FnG P w K mg base CX (k + 1) f fd ps sp := by
  obtain ⟨oc, od, kV, doc, pm, an, cdv, ct, osl, rfl, lk, hcd⟩ := F.ex
  refine ⟨len, ?_⟩
  intro A outer s H args us vs Q E room guards e0 binds vals want
  have many := len _ _ _ _ want
  have there : ∀ bb oo, base.get? bb = some oo → s.heap.get? bb = some oo := fun bb oo q => (e0.bs bb oo q).1
  have inK : K.In s.heap := e0.mod.kin.keeps there
  have kinds : ∀ y ∈ ps.zip us, (defScope st).names.lookup y.1 = some .local ∨ ((defScope st).names.lookup y.1 = some .cell ∧ ((cellsFrom (s.heap.objs.size + 1) (defScope st).names []).lookup y.1).isSome = true) := by
    intro y hy
    have mem : y.1 ∈ ps := (List.of_mem_zip (show (y.1, y.2) ∈ ps.zip us from hy)).1
    exact (S.par y.1 mem).imp id fun q => ⟨q, PySem.W.cellsFrom_some _ _ _ (.inl q)⟩
  refine codeAny_call_function room.depth (inK _ _ lk) rfl S.co S.gen rfl (PySem.W.codeRec_of inK hcd) (binds _ _ _ _ (wpAny_newFunctionEnv_cells S.kind kinds ?_))
  rintro env rfl s1 inside
  refine ⟨(e0.mod.nolimit.keeps there).keeps inside.toInCall.keep, codeAny_func ?_⟩
  obtain ⟨t, term, reading⟩ := hbody cdv A outer s H vs Q E (room.deeper _) guards want
  have I := inv_start (CX := CX) (E := E) S room.hd e0 many vals inside
  refine wpAny_mono (term.run [] s1 (start N vs) H _ I reading) ?_ fun _ _ q => q
  intro fl s' ends
  cases fl with
  | ret u =>
    obtain ⟨v, σ', H', J, rv, q⟩ := ends
    exact ⟨v, H', J.os, J.bare, J.base, J.hok, rv, q⟩
  | next =>
    obtain ⟨σ', H', J, q⟩ := ends
    exact ⟨V.non, H', J.os, J.bare, J.base, J.hok, rfl, q⟩
  | brk =>
    obtain ⟨_, _, _, q⟩ := ends
    exact q.elim
  | cont =>
    obtain ⟨_, _, _, q⟩ := ends
    exact q.elim
end
section
variable {X : Cx} {pins : List (Addr × Obj)} {σ : L2.St} {H : Hp} {s : Shared} {k : Nat} {f : Addr} {fd : FuncData} {ps : List Str} {sp : Sp} {CX : CXT} {E : XK} {x : Str} {p pos : Pos} {e : Expr} {es : List Expr} {t : TA}
theorem run_any {Q : VK} {args : Args} {us : List Value} {vs : List V} (F : FnG X.prog X.w X.K X.mg X.base CX k f fd ps sp) (hr : Room k X.A) (hgd : X.A.guards = some []) (hx : Passes CX X E) (I : Inv X pins σ H s)
    (hb : BindsTo s fd args (ps.zip us)) (r : Vals vs us) (h : sp vs H Q E) : codeAny (model X.prog X.w) X.A (.call (.ref f) args) (fun r s' => match r with | .ok (.ret u) => EP X pins σ Q u s' | .ok _ => False | .error e => X.xe e s') s := by
  refine codeAny_mono (F.run X.A X.stack s H args us vs Q E hr hgd I.env0 hb r h) fun r s' q => ?_
  match r, q with
  | .error e, q => exact hx pins σ H s e s' I q
  | .ok (.ret u), q => exact I.after q
  | .ok .next, q => exact False.elim q
  | .ok .brk, q => exact False.elim q
  | .ok .cont, q => exact False.elim q
theorem run_pos {Q : VK} {us : List Value} {vs : List V} (F : FnG X.prog X.w X.K X.mg X.base CX k f fd ps sp) (hr : Room k X.A) (hgd : X.A.guards = some []) (hb : Binds X.K fd ps []) (hx : Passes CX X E) (I : Inv X pins σ H s) (r : Vals vs us) (h : sp vs H Q E) :
    wpAny (model X.prog X.w) X.A (call (.ref f) us) (EP X pins σ Q) X.xe s := by
  have many : (us ++ []).length = ps.length := by rw [List.append_nil, ← r.length]; exact F.len _ _ _ _ h
  have b := hb s us I.kIn many
  rw [List.append_nil] at b
  refine wpAny_call (codeAny_mono (run_any F hr hgd hx I b r h) fun r s' q => ?_)
  match r, q with
  | .error e, q => exact q
  | .ok (.ret u), q => exact q
/-- f(a, ..) -/
theorem pe_callG (F : FnG X.prog X.w X.K X.mg X.base CX k f fd ps sp) (hr : Room k X.A) (hgd : X.A.guards = some []) (hg : Gl X x) (hm : X.mg x = some (.ref f)) (hk : PySem.W.keepIn X.K (.ref f) = true) (hb : Binds X.K fd ps []) (hx : Passes CX X E)
    (ha : PA X (e :: es) t) (hdb : (x == ("__debug__" : Str)) = false := by decide) (he : starEach (e :: es) X.env = (false, eval e X.env) :: starEach es X.env := by rfl) (hpl : (backTo pos (starEach es X.env)).any (·.1) = false := by rfl) :
    PE X (.Call (.Name x p) (e :: es) [] pos) (fun σ H Q => t σ H fun vs H1 => sp vs H1 Q E) := by
  constructor
  intro pins s σ H Q I h
  apply wpAny_Call_Name_kw
  apply ld_glob I hg hm _ hdb
  refine PySem.W.callWith_K (h₀ := X.base) I.ok.mod.kin hk (thn (ha.run pos pins s σ H _ I h) ?_) he hpl
  rintro us s1 ⟨vs, H1, I1, r, q⟩
  exact ⟨I1.kIn, run_pos F hr hgd hb hx I1 r q⟩
/-- f() -/
theorem pe_callG0 (F : FnG X.prog X.w X.K X.mg X.base CX k f fd ps sp) (hr : Room k X.A) (hgd : X.A.guards = some []) (hg : Gl X x) (hm : X.mg x = some (.ref f)) (hk : PySem.W.keepIn X.K (.ref f) = true) (hb : Binds X.K fd ps []) (hx : Passes CX X E)
    (hdb : (x == ("__debug__" : Str)) = false := by decide) : PE X (.Call (.Name x p) [] [] pos) (fun σ H Q => sp [] H Q E) := by
  constructor
  intro pins s σ H Q I h
  apply wpAny_Call_Name_kw
  apply ld_glob I hg hm _ hdb
  exact PySem.W.callWith_K0 I.kIn hk (run_pos F hr hgd hb hx I .nil h)
/-- f(a, .., k = c, ..) -/
theorem pe_callGK {ks : List Str} {kws : List Keyword} {tk : TA} {g : List Value → List Value → List Value} {gV : List V → List V → List V} (F : FnG X.prog X.w X.K X.mg X.base CX k f fd ps sp) (hr : Room k X.A) (hgd : X.A.guards = some []) (hg : Gl X x) (hm : X.mg x = some (.ref f)) (hk : PySem.W.keepIn X.K (.ref f) = true) (hb : KBinds X.K fd ps ks g gV) (hx : Passes CX X E)
    (ha : PA X (e :: es) t) (hkw : PK X kws tk) (hall : (backToKw pos (keywordEach kws X.env)).all (·.1.isSome) = true := by rfl) (hks : (backToKw pos (keywordEach kws X.env)).filterMap (·.1) = ks := by rfl)
    (hdb : (x == ("__debug__" : Str)) = false := by decide) (he : starEach (e :: es) X.env = (false, eval e X.env) :: starEach es X.env := by rfl)
    (hpl : ((backTo pos (starEach (e :: es) X.env)).any (·.1) || (backToKw pos (keywordEach kws X.env)).any (·.1.isNone)) = false := by rfl) :
    PE X (.Call (.Name x p) (e :: es) kws pos) (fun σ H Q => t σ H fun vs H1 => tk σ H1 fun zs H2 => sp (gV vs zs) H2 Q E) := by
  constructor
  intro pins s σ H Q I h
  apply wpAny_Call_Name_kw
  apply ld_glob I hg hm _ hdb
  refine PySem.W.callWith_KW (h₀ := X.base) I.ok.mod.kin hk hall (thn (ha.run pos pins s σ H _ I h) ?_) hpl he
  rintro us s1 ⟨vs, H1, I1, r, q⟩
  refine thn (hkw.run pos pins s1 σ H1 _ I1 q) ?_
  rintro ws s2 ⟨zs, H2, I2, rz, q2⟩
  refine ⟨I2.kIn, ?_⟩
  rw [hks]
  have r2 := hb.rel r rz
  have many : (g us ws).length = ps.length := by rw [← r2.length]; exact F.len _ _ _ _ q2
  refine wpAny_call (codeAny_mono (run_any F hr hgd hx I2 (hb.to s2 us ws I2.kIn many) r2 q2) fun r s' q => ?_)
  match r, q with
  | .error e, q => exact q
  | .ok (.ret u), q => exact q
/-- f(k = c, ..) -/
theorem pe_callGK0 {ks : List Str} {kws : List Keyword} {tk : TA} {g : List Value → List Value → List Value} {gV : List V → List V → List V} (F : FnG X.prog X.w X.K X.mg X.base CX k f fd ps sp) (hr : Room k X.A) (hgd : X.A.guards = some []) (hg : Gl X x) (hm : X.mg x = some (.ref f)) (hk : PySem.W.keepIn X.K (.ref f) = true) (hb : KBinds X.K fd ps ks g gV) (hx : Passes CX X E)
    (hkw : PK X kws tk) (hall : (backToKw pos (keywordEach kws X.env)).all (·.1.isSome) = true := by rfl) (hks : (backToKw pos (keywordEach kws X.env)).filterMap (·.1) = ks := by rfl)
    (hdb : (x == ("__debug__" : Str)) = false := by decide)
    (hpl : ((backTo pos (starEach [] X.env)).any (·.1) || (backToKw pos (keywordEach kws X.env)).any (·.1.isNone)) = false := by rfl) :
    PE X (.Call (.Name x p) [] kws pos) (fun σ H Q => tk σ H fun zs H2 => sp (gV [] zs) H2 Q E) := by
  constructor
  intro pins s σ H Q I h
  apply wpAny_Call_Name_kw
  apply ld_glob I hg hm _ hdb
  refine PySem.W.callWith_KW0 (h₀ := X.base) I.ok.mod.kin hk hall (thn (hkw.run pos pins s σ H _ I h) ?_) hpl
  rintro ws s2 ⟨zs, H2, I2, rz, q2⟩
  refine ⟨I2.kIn, ?_⟩
  rw [hks]
  have r2 := hb.rel (.nil : Vals [] []) rz
  have many : (g [] ws).length = ps.length := by rw [← r2.length]; exact F.len _ _ _ _ q2
  refine wpAny_call (codeAny_mono (run_any F hr hgd hx I2 (hb.to s2 [] ws I2.kIn many) r2 q2) fun r s' q => ?_)
  match r, q with
  | .error e, q => exact q
  | .ok (.ret u), q => exact q
end
end PL

set_option Elab.async false
set_option linter.all false
set_option maxRecDepth 100000
set_option maxHeartbeats 4000000
/-! ## Judgements: what an expression, a statement is worth on data -/
namespace PL
open PySem PySem.Spec PyProof.Rows L2
open Classical

abbrev VT := Nat → En → (Nat → D → Prop) → Prop
abbrev AT := Nat → En → (Nat → List D → Prop) → Prop
abbrev BT := Nat → En → (Nat → Bool → Prop) → Prop
abbrev MT := Nat → En → (Nat → En → D → Prop) → Prop
abbrev OT := Nat → En → (Nat → List D → Prop) → Prop
/-- what a def hands back: a value; a list that nobody else holds -/
inductive Rv where
  | val (d : D)
  | own (ds : List D)
def Rv.d : Rv → D
  | .val d => d
  | .own ds => .list ds
structure Pn where
  nx : Nat → En → Prop
  rt : Nat → Rv → Prop
  bk : Nat → En → Prop := fun _ _ => False
  ct : Nat → En → Prop := fun _ _ => False
abbrev ST := Pn → Nat → En → Prop

def Ret (K : PySem.W.Frag) (b : Bs) (F' H' : Hp) (v : V) (r : Rv) (n : Nat) : Prop := Stp b.pt n b.F0 b.H0 F' H' ∧
  match r with
  | .val d => Dq K F' v d
  | .own ds => ∃ a xs, v = .ref a ∧ F' a = none ∧ b.H0 a = none ∧ b.pt ≠ some a ∧ H' a = some (.lst xs) ∧ DqAll K F' xs ds

section
variable (K : PySem.W.Frag) (b : Bs)
def liftV (p : VT) : TE := fun σ H Q => ∃ F e n Qp, Rel K b F H σ e n ∧ p n e Qp ∧ ∀ n' d, Qp n' d → ∀ F' H' v, Stp b.pt n' F H F' H' → Dq K (plus F' H' σ e) v d → Q v H'
def liftA (p : AT) : TA := fun σ H Q => ∃ F e n Qp, Rel K b F H σ e n ∧ p n e Qp ∧ ∀ n' ds, Qp n' ds → ∀ F' H' vs, Stp b.pt n' F H F' H' → DqAll K (plus F' H' σ e) vs ds → Q vs H'
def liftB (p : BT) : TT := fun σ H Q => ∃ F e n Qp, Rel K b F H σ e n ∧ p n e Qp ∧ ∀ n' c, Qp n' c → ∀ F' H', Stp b.pt n' F H F' H' → Q c H'
def liftM (p : MT) : TE := fun σ H Q => ∃ F e n Qp, Rel K b F H σ e n ∧ p n e Qp ∧ ∀ n' e' d, Qp n' e' d → ∀ F' H' v, Rel K b F' H' σ e' n' → (∀ a o, F a = some o → F' a = some o) → Dq K F' v d → Q v H'
def liftO (p : OT) : TE := fun σ H Q => ∃ F e n Qp, Rel K b F H σ e n ∧ p n e Qp ∧ ∀ n' ds, Qp n' ds → ∀ F' H' a xs, Stp b.pt n' F H F' H' → F' a = none → H a = none → H' a = some (.lst xs) → DqAll K (plus F' H' σ e) xs ds → Q (.ref a) H'
def liftS (p : ST) : TS := fun D σ H => ∃ F e n W, Rel K b F H σ e n ∧ p W n e ∧
  (∀ n' e', W.nx n' e' → ∀ F' H' σ', Rel K b F' H' σ' e' n' → (∀ a o, F a = some o → F' a = some o) → D.nx σ' H') ∧ (∀ n' r, W.rt n' r → ∀ F' H' v, Ret K b F' H' v r n' → D.rt v H') ∧
  (∀ n' e', W.bk n' e' → ∀ F' H' σ', Rel K b F' H' σ' e' n' → (∀ a o, F a = some o → F' a = some o) → D.bk σ' H') ∧ (∀ n' e', W.ct n' e' → ∀ F' H' σ', Rel K b F' H' σ' e' n' → (∀ a o, F a = some o → F' a = some o) → D.ct σ' H')
end
structure PV (b : Bs) (X : Cx) (ex : Expr) (p : VT) : Prop where
  pe : PE X ex (liftV X.K b p)
structure PAs (b : Bs) (X : Cx) (es : List Expr) (p : AT) : Prop where
  pa : PA X es (liftA X.K b p)
structure PB (b : Bs) (X : Cx) (ex : Expr) (p : BT) : Prop where
  pt : PT X ex (liftB X.K b p)
structure PM (b : Bs) (X : Cx) (ex : Expr) (p : MT) : Prop where
  pe : PE X ex (liftM X.K b p)
structure PO (b : Bs) (X : Cx) (ex : Expr) (p : OT) : Prop where
  pe : PE X ex (liftO X.K b p)
structure Ps (b : Bs) (X : Cx) (st : Stmt) (p : ST) : Prop where
  ps : PS X st (liftS X.K b p)
structure Pss (b : Bs) (X : Cx) (st : List Stmt) (p : ST) : Prop where
  ps : PSs X st (liftS X.K b p)

section
variable {X : Cx} {b : Bs}
theorem weakE {ex : Expr} {t t' : TE} (h : PE X ex t) (w : ∀ σ H Q, t' σ H Q → t σ H Q) : PE X ex t' := ⟨fun pins s σ H Q I q => h.run pins s σ H Q I (w _ _ _ q)⟩
theorem weakA {es : List Expr} {t t' : TA} (h : PA X es t) (w : ∀ σ H Q, t' σ H Q → t σ H Q) : PA X es t' := ⟨fun pos pins s σ H Q I q => h.run pos pins s σ H Q I (w _ _ _ q)⟩
theorem weakT {ex : Expr} {t t' : TT} (h : PT X ex t) (w : ∀ σ H Q, t' σ H Q → t σ H Q) : PT X ex t' := ⟨fun pins s σ H Q I q => h.run pins s σ H Q I (w _ _ _ q)⟩
theorem weakS {st : Stmt} {t t' : TS} (h : PS X st t) (w : ∀ D σ H, t' D σ H → t D σ H) : PS X st t' := ⟨fun pins s σ H D I q => h.run pins s σ H D I (w _ _ _ q)⟩
theorem weakSs {st : List Stmt} {t t' : TS} (h : PSs X st t) (w : ∀ D σ H, t' D σ H → t D σ H) : PSs X st t' := ⟨fun pins s σ H D I q => h.run pins s σ H D I (w _ _ _ q)⟩

/-! ### from one to the next -/
section
variable {K : PySem.W.Frag} {F H : Hp} {σ : L2.St} {e : En} {n : Nat}
theorem liftV_of {p : VT} {Q : VK} {Qp : Nat → D → Prop} (R : Rel K b F H σ e n) (h : p n e Qp) (k : ∀ n' d, Qp n' d → ∀ F' H' v, Rel K b F' H' σ e n' → Stp b.pt n' F H F' H' → Dq K (plus F' H' σ e) v d → Q v H') : liftV K b p σ H Q :=
  ⟨F, e, n, Qp, R, h, fun n' d q F' H' v st dv => k n' d q F' H' v (R.step st) st dv⟩
theorem liftA_of {p : AT} {Q : List V → Hp → Prop} {Qp : Nat → List D → Prop} (R : Rel K b F H σ e n) (h : p n e Qp) (k : ∀ n' d, Qp n' d → ∀ F' H' v, Rel K b F' H' σ e n' → Stp b.pt n' F H F' H' → DqAll K (plus F' H' σ e) v d → Q v H') : liftA K b p σ H Q :=
  ⟨F, e, n, Qp, R, h, fun n' d q F' H' v st dv => k n' d q F' H' v (R.step st) st dv⟩
theorem liftB_of {p : BT} {Q : Bool → Hp → Prop} {Qp : Nat → Bool → Prop} (R : Rel K b F H σ e n) (h : p n e Qp) (k : ∀ n' d, Qp n' d → ∀ F' H', Rel K b F' H' σ e n' → Stp b.pt n' F H F' H' → Q d H') : liftB K b p σ H Q :=
  ⟨F, e, n, Qp, R, h, fun n' d q F' H' st => k n' d q F' H' (R.step st) st⟩
/-- what goes on over all that stands (the frame's own lists too) goes on over the frozen part -/
theorem Rel.over {pt' : Option Addr} {n' : Nat} {G' H' : Hp} (R : Rel K b F H σ e n) (st : Stp pt' n' (plus F H σ e) H G' H') (hp : pt' = b.pt ∨ (pt' = none ∧ n' = n)) :
    ∃ F', Stp b.pt n' F H F' H' ∧ (∀ a o, G' a = some o → plus F' H' σ e a = some o) ∧ (∀ a, G' a = none → F' a = none) := by
  have nm : ∀ a o, F a = some o → ¬ Mine σ e a := fun a o h m => by
    obtain ⟨_, _, _, _, _, h1, _⟩ := R.mine m
    rw [h1] at h; cases h
  refine ⟨fun a => if Mine σ e a then none else G' a, ⟨fun a o h => ?_, fun a o h => ?_, fun a o hpt h => ?_, fun a h => ?_, fun q hq => ?_⟩, fun a o h => ?_, fun a h => ?_⟩
  · show (if Mine σ e a then none else G' a) = some o
    rw [if_neg (nm a o h)]
    exact st.fz a o (R.plusF a o h)
  · by_cases m : Mine σ e a
    · have h' : (if Mine σ e a then none else G' a) = some o := h
      rw [if_pos m] at h'; cases h'
    · have h' : (if Mine σ e a then none else G' a) = some o := h
      rw [if_neg m] at h'
      exact st.sub a o h'
  · rcases hp with hp | ⟨hp, _⟩
    · exact st.keep a o (by rw [hp]; exact hpt) h
    · exact st.keep a o (by rw [hp]; simp) h
  · by_cases m : Mine σ e a
    · exact absurd (if_pos m) h
    · have h' : (if Mine σ e a then none else G' a) ≠ none := h
      rw [if_neg m] at h'
      rcases st.new a h' with z | z
      · left
        unfold plus at z
        rw [if_neg m] at z
        exact z
      · exact .inr z
  · obtain ⟨h1, x, y, z, h2, h3⟩ := R.pot q hq
    have m : ¬ Mine σ e q := fun m => by
      obtain ⟨_, _, _, _, _, _, _, h4, _⟩ := R.mine m
      exact h4 hq
    have pq : plus F H σ e q = none := by
      unfold plus; rw [if_neg m]; exact h1
    rcases hp with hp | ⟨hp, hn⟩
    · obtain ⟨g1, g2⟩ := st.pot q (by rw [hp]; exact hq)
      refine ⟨?_, g2⟩
      show (if Mine σ e q then none else G' q) = none
      rw [if_neg m]; exact g1
    · refine ⟨?_, x, y, z, st.keep q _ (by rw [hp]; simp) h2, by rw [hn]; exact h3⟩
      show (if Mine σ e q then none else G' q) = none
      rw [if_neg m]
      cases g : G' q with
      | none => rfl
      | some o =>
        rcases st.new q (by rw [g]; simp) with z1 | z1
        · exact absurd pq z1
        · rw [h2] at z1; cases z1
  · unfold plus
    by_cases m : Mine σ e a
    · rw [if_pos m]; exact st.sub a o h
    · rw [if_neg m]
      show (if Mine σ e a then none else G' a) = some o
      rw [if_neg m]; exact h
  · show (if Mine σ e a then none else G' a) = none
    by_cases m : Mine σ e a
    · exact if_pos m
    · rw [if_neg m]; exact h
end

/-! ### names, constants -/
def pVar (i : Nat) : VT := fun n e Q => match e[i]? with
  | some (.val d) => Q n d
  | some (.own ds) => Q n (.list ds)
  | _ => False
theorem pv_var {i : Nat} {x : Str} {pos : Pos} (hN : X.N[i]? = some x := by rfl) (hv : Vis X.env.scope x := by first | exact Or.inl rfl | exact Or.inr (Or.inl rfl) | exact Or.inr (Or.inr rfl)) (hd : (x == ("__debug__" : Str)) = false := by decide)
    (hcd : (x == ("__classdict__" : Str)) = false := by decide) : PV b X (.Name x pos) (pVar i) := by
  refine ⟨weakE (pe_var hN hv hd hcd) ?_⟩
  rintro σ H Q ⟨F, e, n, Qp, R, h, k⟩
  unfold pVar at h
  cases q : e[i]? with
  | none => rw [q] at h; exact h.elim
  | some s =>
    rw [q] at h
    obtain ⟨v, h1, h2⟩ := R.slot i s q
    cases s with
    | un => exact h.elim
    | pot => exact h.elim
    | kn w => exact h.elim
    | val d =>
      cases v with
      | none => exact h2.elim
      | some v => exact ⟨v, h1, k n d h F H v R.refl (Dq.mono R.plusF h2)⟩
    | own ds =>
      obtain ⟨a, xs, e1, f1, f2, f3, f4, f5⟩ := h2.own_at
      subst e1
      refine ⟨_, h1, k n _ h F H _ R.refl (.lst ?_ (DqAll.mono R.plusF f5))⟩
      unfold plus
      rw [if_pos ⟨i, ds, q, h1⟩]
      exact f4
def pC (d : D) : VT := fun n _ Q => Q n d
theorem pv_of_C {ex : Expr} {v : V} {d : D} (h : PE X ex (tC v)) (hd : ∀ G, Dq X.K G v d) : PV b X ex (pC d) := by
  refine ⟨weakE h ?_⟩
  rintro σ H Q ⟨F, e, n, Qp, R, h, k⟩
  exact k n d h F H v R.refl (hd _)
theorem pv_int {i : Int} {j pos} : PV b X (.Constant (.int i) j pos) (pC (.int i)) := pv_of_C pe_int fun _ => .int i
theorem pv_bl {c : Bool} {j pos} : PV b X (.Constant (.bool c) j pos) (pC (.bool c)) := pv_of_C pe_bl fun _ => .bl c
theorem pv_non {j pos} : PV b X (.Constant .none j pos) (pC .none) := pv_of_C pe_non fun _ => .non
theorem pv_str {x : Str} {j pos} : PV b X (.Constant (.str x) j pos) (pC (.str x)) := pv_of_C pe_str fun _ => .str x
theorem pv_gint {x : Str} {i : Int} {pos : Pos} (hm : ∃ t, X.mg x = some (.int i t)) (hg : Gl X x := by rfl) (hd : (x == ("__debug__" : Str)) = false := by decide) : PV b X (.Name x pos) (pC (.int i)) :=
  let ⟨t, e⟩ := hm
  pv_of_C (v := .int i) (pe_glob (v := .int i) hg e (by exact ⟨t, rfl⟩) hd) fun _ => .int i
theorem pv_gstr {x y : Str} {pos : Pos} (hm : ∃ t, X.mg x = some (.str y t)) (hg : Gl X x := by rfl) (hd : (x == ("__debug__" : Str)) = false := by decide) : PV b X (.Name x pos) (pC (.str y)) :=
  let ⟨t, e⟩ := hm
  pv_of_C (v := .str y) (pe_glob (v := .str y) hg e (by exact ⟨t, rfl⟩) hd) fun _ => .str y

/-! ### operators by data -/
/-- the rule r, asked of data -/
def OpP (K : PySem.W.Frag) (r : R2) (o : D → D → (D → Prop) → Prop) : Prop := ∀ (G H : Hp) (x y : V) (d1 d2 : D) (Qd : D → Prop) (Q : VK), (∀ a u, G a = some u → H a = some u) → Dq K G x d1 → Dq K G y d2 → o d1 d2 Qd →
  (∀ d, Qd d → ∀ G' H' v, Stp none 0 G H G' H' → Dq K G' v d → Q v H') → r x y H Q
def CaP (K : PySem.W.Frag) (r : List V → Hp → VK → Prop) (o : List D → (D → Prop) → Prop) : Prop := ∀ (G H : Hp) (xs : List V) (ds : List D) (Qd : D → Prop) (Q : VK), (∀ a u, G a = some u → H a = some u) → DqAll K G xs ds → o ds Qd →
  (∀ d, Qd d → ∀ G' H' v, Stp none 0 G H G' H' → Dq K G' v d → Q v H') → r xs H Q
theorem none0 {F H : Hp} {n : Nat} : PotOk none n F H := fun _ z => by cases z
theorem st0 {G H : Hp} (hs : ∀ a u, G a = some u → H a = some u) : Stp none 0 G H G H := Stp.refl hs none0
theorem stNew {G H : Hp} {p : Addr} {o : HO} (hs : ∀ a u, G a = some u → H a = some u) (hp : H p = none) : Stp none 0 G H (upd G p o) (upd H p o) := Stp.lay hs hp none0
theorem Stp.any {G H G' H' : Hp} {n m : Nat} (s : Stp none n G H G' H') : Stp none m G H G' H' := ⟨s.fz, s.sub, s.keep, s.new, none0⟩
section
variable {K : PySem.W.Frag} {F H : Hp} {σ : L2.St} {e : En} {n : Nat}
/-- behind an operator -/
theorem Rel.behind {Qd : D → Prop} {Q : VK} (R : Rel K b F H σ e n) (k : ∀ d, Qd d → ∀ F' H' v, Stp b.pt n F H F' H' → Dq K (plus F' H' σ e) v d → Q v H') :
    ∀ d, Qd d → ∀ G' H' v, Stp none 0 (plus F H σ e) H G' H' → Dq K G' v d → Q v H' := fun d q G' H' v st dv => by
  obtain ⟨F', st', h1, _⟩ := R.over (st.any (m := n)) (.inr ⟨rfl, rfl⟩)
  exact k d q F' H' v st' (Dq.mono h1 dv)
end
def pBin (o : D → D → (D → Prop) → Prop) (pa pb : VT) : VT := fun n e Q => pa n e fun n1 d1 => pb n1 e fun n2 d2 => o d1 d2 (Q n2)
theorem pv_op2 {ex : Expr} {r : R2} {o : D → D → (D → Prop) → Prop} {a c : Expr} {pa pb : VT} (h : PE X ex (tOp r (liftV X.K b pa) (liftV X.K b pb))) (ho : OpP X.K r o) : PV b X ex (pBin o pa pb) := by
  refine ⟨weakE h ?_⟩
  rintro σ H Q ⟨F, e, n, Qp, R, h, k⟩
  refine liftV_of R h fun n1 d1 h1 F1 H1 v1 R1 s1 q1 => ?_
  refine liftV_of R1 h1 fun n2 d2 h2 F2 H2 v2 R2 s2 q2 => ?_
  refine ho _ _ _ _ _ _ _ _ R2.plusH (Dq.mono (R1.plus_mono s2) q1) q2 h2 (R2.behind fun d q F' H' v st dv => ?_)
  exact k n2 d q F' H' v ((s1.trans s2).trans st) dv
theorem pv_bin {op : Operator} {r : R2} {o : D → D → (D → Prop) → Prop} {a c : Expr} {pa pb : VT} {pos : Pos} (hr : OpR X (binaryOp op) r) (ho : OpP X.K r o) (ha : PV b X a pa) (hc : PV b X c pb) : PV b X (.BinOp a op c pos) (pBin o pa pb) :=
  pv_op2 (a := a) (c := c) (pe_op hr ha.pe hc.pe) ho
theorem pv_cmp {op : CmpOp} {r : R2} {o : D → D → (D → Prop) → Prop} {a c : Expr} {pa pb : VT} {pos : Pos} (hr : OpR X (compareOp op) r) (ho : OpP X.K r o) (ha : PV b X a pa) (hc : PV b X c pb) (hm : behindInMarks op c = false) : PV b X (.Compare a [op] [c] pos) (pBin o pa pb) :=
  pv_op2 (a := a) (c := c) (pe_cmpR hr ha.pe hc.pe hm) ho
def pUn (o : D → (D → Prop) → Prop) (pa : VT) : VT := fun n e Q => pa n e fun n1 d1 => o d1 (Q n1)

/-! ### arguments, displays -/
def pNil : AT := fun n _ Q => Q n []
def pCons (pa : VT) (pr : AT) : AT := fun n e Q => pa n e fun n1 d => pr n1 e fun n2 ds => Q n2 (d :: ds)
theorem pas_nil : PAs b X [] pNil := by
  refine ⟨weakA pa_nil ?_⟩
  rintro σ H Q ⟨F, e, n, Qp, R, h, k⟩
  exact k n [] h F H [] R.refl .nil
theorem pas_cons {ex : Expr} {es : List Expr} {pa : VT} {pr : AT} (ha : PV b X ex pa) (hr : PAs b X es pr) (hs : starEach (ex :: es) X.env = (false, eval ex X.env) :: starEach es X.env := by rfl) : PAs b X (ex :: es) (pCons pa pr) := by
  refine ⟨weakA (pa_cons ha.pe hr.pa hs) ?_⟩
  rintro σ H Q ⟨F, e, n, Qp, R, h, k⟩
  refine liftV_of R h fun n1 d1 h1 F1 H1 v1 R1 s1 q1 => ?_
  refine liftA_of R1 h1 fun n2 d2 h2 F2 H2 v2 R2 s2 q2 => ?_
  exact k n2 _ h2 F2 H2 _ (s1.trans s2) (.cons (Dq.mono (R1.plus_mono s2) q1) q2)
/-- a tuple's display; an empty one too -/
def pTup (pa : AT) : VT := fun n e Q => pa n e fun n1 ds => ds.length ≤ sizeLine ∧ Q n1 (.tuple ds)
theorem pv_tup {es : List Expr} {x1} {pa : AT} {pos : Pos} (ha : PAs b X es pa) : PV b X (.Tuple es x1 pos) (pTup pa) := by
  refine ⟨weakE (pe_tup ha.pa) ?_⟩
  rintro σ H Q ⟨F, e, n, Qp, R, h, k⟩
  refine liftA_of R h fun n1 ds ⟨hz, h1⟩ F1 H1 vs R1 s1 q1 => ⟨by rw [q1.length]; exact hz, fun p hp => ?_⟩
  have st := R1.lay (o := .tup vs) hp
  refine k n1 _ h1 _ _ _ (s1.trans st) (.tup (.inl (.inl ?_)) (DqAll.mono (R1.plus_mono st) q1))
  exact R1.plus_lay hp
/-- a new list, frozen -/
theorem pv_ofO {ex : Expr} {po : OT} (h : PO b X ex po) : PV b X ex (fun n e Q => po n e fun n1 ds => Q n1 (.list ds)) := by
  refine ⟨weakE h.pe ?_⟩
  rintro σ H Q ⟨F, e, n, Qp, R, h, k⟩
  refine ⟨F, e, n, _, R, h, fun n1 ds h1 F1 H1 a xs s1 f1 f0 ha hd => ?_⟩
  have R1 := R.step s1
  have npot : b.pt ≠ some a := fun z => by
    obtain ⟨_, x, y, w, q, _⟩ := R.pot a z
    rw [f0] at q; cases q
  have nm : ¬ Mine σ e a := fun m => by
    obtain ⟨_, _, _, _, _, _, _, _, q, _⟩ := R.mine m
    rw [f0] at q; cases q
  -- the frozen part with the new list
  have st : Stp b.pt n1 F H (upd F1 a (.lst xs)) H1 := {
    fz := fun c o q => by
      have q1 := s1.fz c o q
      rw [upd_ne (ne_of_none q1 f1)]; exact q1
    sub := fun c o q => by
      by_cases z : c = a
      · subst z; rw [upd_same] at q; cases q; exact ha
      · rw [upd_ne z] at q; exact s1.sub c o q
    keep := s1.keep
    new := fun c q => by
      by_cases z : c = a
      · subst z; exact .inr f0
      · rw [upd_ne z] at q; exact s1.new c q
    pot := fun p hp => by
      obtain ⟨g1, g2⟩ := s1.pot p hp
      have z : p ≠ a := fun z => npot (by rw [← z]; exact hp)
      exact ⟨by rw [upd_ne z]; exact g1, g2⟩ }
  refine k n1 _ h1 _ H1 _ st (.lst ?_ (DqAll.mono ?_ hd))
  · unfold plus; rw [if_neg nm, upd_same]
  · intro c o q
    unfold plus at q ⊢
    by_cases m : Mine σ e c
    · rw [if_pos m] at q ⊢; exact q
    · rw [if_neg m] at q ⊢
      rw [upd_ne (ne_of_none q f1)]; exact q
def oLst (pa : AT) : OT := fun n e Q => pa n e fun n1 ds => ds.length ≤ sizeLine ∧ Q n1 ds
theorem po_lst {es : List Expr} {pa : AT} {pos : Pos} (ha : PAs b X es pa) : PO b X (.List es pos) (oLst pa) := by
  refine ⟨weakE (pe_lst ha.pa) ?_⟩
  rintro σ H Q ⟨F, e, n, Qp, R, h, k⟩
  refine liftA_of R h fun n1 ds ⟨hz, h1⟩ F1 H1 vs R1 s1 q1 => ⟨by rw [q1.length]; exact hz, fun p hp => ?_⟩
  have hF : F1 p = none := by
    cases z : F1 p with
    | none => rfl
    | some o => rw [R1.sub p o z] at hp; cases hp
  have st : Stp b.pt n1 F H F1 (upd H1 p (.lst vs)) := {
    fz := s1.fz
    sub := fun c o q => by rw [upd_ne (ne_of_none q hF)]; exact s1.sub c o q
    keep := fun c o hc q => by rw [upd_ne (ne_of_none (s1.keep c o hc q) hp)]; exact s1.keep c o hc q
    new := s1.new
    pot := fun q hq => by
      obtain ⟨g1, x, y, w, g2, g3⟩ := s1.pot q hq
      exact ⟨g1, x, y, w, by rw [upd_ne (ne_of_none g2 hp)]; exact g2, g3⟩ }
  have hH : H p = none := by
    cases z : H p with
    | none => rfl
    | some o =>
      by_cases c : b.pt = some p
      · obtain ⟨_, x, y, w, g2, _⟩ := s1.pot p c
        rw [hp] at g2; cases g2
      · rw [s1.keep p o c z] at hp; cases hp
  refine k n1 ds h1 F1 _ p vs st hF hH upd_same (DqAll.mono (fun c o q => ?_) q1)
  unfold plus at q ⊢
  by_cases m : Mine σ e c
  · rw [if_pos m] at q ⊢
    rw [upd_ne (ne_of_none q hp)]; exact q
  · rw [if_neg m] at q ⊢; exact q
end
end PL

set_option Elab.async false
set_option linter.all false
set_option maxRecDepth 100000
set_option maxHeartbeats 4000000
/-! ## Tests, places, built-ins -/
namespace PL
open PySem PySem.Spec PyProof.Rows L2
open Classical
section
variable {X : Cx} {b : Bs}

theorem iT {A B : Prop} (h : if true = true then A else B) : A := by rwa [if_pos rfl] at h
theorem iF {A B : Prop} (h : if false = true then A else B) : B := by rwa [if_neg Bool.false_ne_true] at h
/-! ### tests -/
def bVal (p : VT) : BT := fun n e Q => p n e fun n1 d => ∃ c, d = .bool c ∧ Q n1 c
theorem Dq.bool_of {K : PySem.W.Frag} {G : Hp} {v : V} {c : Bool} (h : Dq K G v (.bool c)) : v = .bl c := by cases h; rfl
theorem Dq.int_of {K : PySem.W.Frag} {G : Hp} {v : V} {c : Int} (h : Dq K G v (.int c)) : v = .int c := by cases h; rfl
theorem Dq.str_of {K : PySem.W.Frag} {G : Hp} {v : V} {c : Str} (h : Dq K G v (.str c)) : v = .str c := by cases h; rfl
theorem Dq.none_of {K : PySem.W.Frag} {G : Hp} {v : V} (h : Dq K G v .none) : v = .non := by cases h; rfl
theorem Dq.list_of {K : PySem.W.Frag} {G : Hp} {v : V} {ds : List D} (h : Dq K G v (.list ds)) : ∃ a xs, v = .ref a ∧ G a = some (.lst xs) ∧ DqAll K G xs ds := by cases h with | lst h1 h2 => exact ⟨_, _, rfl, h1, h2⟩
theorem Dq.tup_of {K : PySem.W.Frag} {G : Hp} {v : V} {ds : List D} (h : Dq K G v (.tuple ds)) : ∃ a xs, v = .ref a ∧ SqT K G a xs ∧ DqAll K G xs ds := by cases h with | tup h1 h2 => exact ⟨_, _, rfl, h1, h2⟩
theorem SqT.over {K : PySem.W.Frag} {G H : Hp} {a : Addr} {xs : List V} (hs : ∀ a o, G a = some o → H a = some o) (h : SqT K G a xs) : SqT K H a xs := by
  rcases h with (h | ⟨o, h⟩) | h
  · exact .inl (.inl (hs _ _ h))
  · exact .inl (.inr ⟨o, hs _ _ h⟩)
  · exact .inr h
theorem pb_of {ex : Expr} {p : VT} (h : PT X ex (tB (liftV X.K b p))) : PB b X ex (bVal p) := by
  refine ⟨weakT h ?_⟩
  rintro σ H Q ⟨F, e, n, Qp, R, h, k⟩
  refine liftV_of R h fun n1 d ⟨c, ed, h1⟩ F1 H1 v R1 s1 q1 => ?_
  subst ed
  exact ⟨c, q1.bool_of, k n1 c h1 F1 H1 s1⟩
theorem pb_val {ex : Expr} {p : VT} (h : PV b X ex p) (he : ∀ whole, isTrue ex X.env whole = (do let v ← whole; standAt ex.pos; holding [v] (truthy v)) := by intro _; rfl) : PB b X ex (bVal p) := pb_of (pt_val h.pe he)
theorem pb_cmp {op : CmpOp} {r : R2} {o : D → D → (D → Prop) → Prop} {a c : Expr} {pa pb : VT} {pos : Pos} (hr : OpR X (compareOp op) r) (ho : OpP X.K r o) (ha : PV b X a pa) (hc : PV b X c pb) (hm : behindInMarks op c = false) : PB b X (.Compare a [op] [c] pos) (bVal (pBin o pa pb)) := by
  refine ⟨weakT (pt_cmpR hr ha.pe hc.pe hm) ?_⟩
  rintro σ H Q ⟨F, e, n, Qp, R, h, k⟩
  refine liftV_of R h fun n1 d1 h1 F1 H1 v1 R1 s1 q1 => ?_
  refine liftV_of R1 h1 fun n2 d2 h2 F2 H2 v2 R2 s2 q2 => ?_
  refine ho _ _ _ _ _ _ _ _ R2.plusH (Dq.mono (R1.plus_mono s2) q1) q2 h2 (R2.behind ?_)
  rintro d ⟨c, rfl, q⟩ F' H' v st dv
  exact ⟨c, dv.bool_of, k n2 c q F' H' ((s1.trans s2).trans st)⟩
/-- a < b < c -/
def pChain (o o' : D → D → (D → Prop) → Prop) (pa pb pc : VT) : VT := fun n e Q => pa n e fun n1 d1 => pb n1 e fun n2 d2 => o d1 d2 fun z => ∃ k, z = .bool k ∧ (if k = true then pc n2 e fun n3 d3 => o' d2 d3 (Q n3) else Q n2 (.bool false))
theorem pv_chain {op op' : CmpOp} {r r' : R2} {o o' : D → D → (D → Prop) → Prop} {a c d : Expr} {pa pb pc : VT} {pos : Pos} (hr : OpR X (compareOp op) r) (ho : OpP X.K r o) (hr' : OpR X (compareOp op') r') (ho' : OpP X.K r' o') (ha : PV b X a pa) (hc : PV b X c pb) (hd : PV b X d pc) (hm : lastMarks [op, op'] [c, d] = false := by rfl) :
    PV b X (.Compare a [op, op'] [c, d] pos) (pChain o o' pa pb pc) := by
  refine ⟨weakE (pe_chain (hm := hm) hr hr' ha.pe hc.pe hd.pe) ?_⟩
  rintro σ H Q ⟨F, e, n, Qp, R, h, k⟩
  refine liftV_of R h fun n1 d1 h1 F1 H1 v1 R1 s1 q1 => ?_
  refine liftV_of R1 h1 fun n2 d2 h2 F2 H2 v2 R2 s2 q2 => ?_
  refine ho _ _ _ _ _ _ _ _ R2.plusH (Dq.mono (R1.plus_mono s2) q1) q2 h2 (R2.behind ?_)
  rintro z ⟨c, rfl, q⟩ F' H' v st dv
  refine ⟨c, dv.bool_of, ?_⟩
  cases c with
  | false => exact iteF (k n2 _ (iF q) F' H' _ ((s1.trans s2).trans st) (.bl false))
  | true =>
    refine iteT (liftV_of (R2.step st) (iT q) fun n3 d3 h3 F3 H3 v3 R3 s3 q3 => ?_)
    refine ho' _ _ _ _ _ _ _ _ R3.plusH (Dq.mono (R2.plus_mono (st.trans s3)) q2) q3 h3 (R3.behind fun d q F4 H4 v st4 dv => ?_)
    exact k n3 d q F4 H4 v ((((s1.trans s2).trans st).trans s3).trans st4) dv
theorem pb_chain {op op' : CmpOp} {r r' : R2} {o o' : D → D → (D → Prop) → Prop} {a c d : Expr} {pa pb pc : VT} {pos : Pos} (hr : OpR X (compareOp op) r) (ho : OpP X.K r o) (hr' : OpR X (compareOp op') r') (ho' : OpP X.K r' o') (ha : PV b X a pa) (hc : PV b X c pb) (hd : PV b X d pc) (hm : lastMarks [op, op'] [c, d] = false := by rfl) :
    PB b X (.Compare a [op, op'] [c, d] pos) (bVal (pChain o o' pa pb pc)) := by
  refine ⟨weakT (pt_chain (hm := hm) hr hr' ha.pe hc.pe hd.pe) ?_⟩
  rintro σ H Q ⟨F, e, n, Qp, R, h, k⟩
  refine liftV_of R h fun n1 d1 h1 F1 H1 v1 R1 s1 q1 => ?_
  refine liftV_of R1 h1 fun n2 d2 h2 F2 H2 v2 R2 s2 q2 => ?_
  refine ho _ _ _ _ _ _ _ _ R2.plusH (Dq.mono (R1.plus_mono s2) q1) q2 h2 (R2.behind ?_)
  rintro z ⟨c, rfl, q⟩ F' H' v st dv
  refine ⟨c, dv.bool_of, ?_⟩
  cases c with
  | false =>
    obtain ⟨c, ec, q⟩ : ∃ c, PyData.bool false = .bool c ∧ Qp n2 c := iF q
    cases ec
    exact iteF ⟨false, rfl, k n2 _ q F' H' ((s1.trans s2).trans st)⟩
  | true =>
    refine iteT (liftV_of (R2.step st) (iT q) fun n3 d3 h3 F3 H3 v3 R3 s3 q3 => ?_)
    refine ho' _ _ _ _ _ _ _ _ R3.plusH (Dq.mono (R2.plus_mono (st.trans s3)) q2) q3 h3 (R3.behind ?_)
    rintro d ⟨c, rfl, q⟩ F4 H4 v st4 dv
    exact ⟨c, dv.bool_of, k n3 c q F4 H4 ((((s1.trans s2).trans st).trans s3).trans st4)⟩
def bNot (p : BT) : BT := fun n e Q => p n e fun n1 c => Q n1 (!c)
theorem pb_not {a : Expr} {pos : Pos} {p : BT} (h : PB b X a p) : PB b X (.UnaryOp .Not a pos) (bNot p) := by
  refine ⟨weakT (pt_not h.pt) ?_⟩
  rintro σ H Q ⟨F, e, n, Qp, R, h, k⟩
  exact liftB_of R h fun n1 c h1 F1 H1 R1 s1 => k n1 _ h1 F1 H1 s1
structure PBw (b : Bs) (X : Cx) (ex : Expr) (p : BT) : Prop where
  pw : PW X ex (liftB X.K b p)
theorem weakW {ex : Expr} {t t' : TT} (h : PW X ex t) (w : ∀ σ H Q, t' σ H Q → t σ H Q) : PW X ex t' := ⟨fun wh pins s σ H Q I q => h.run wh pins s σ H Q I (w _ _ _ q)⟩
theorem PBw.pb {ex : Expr} {p : BT} (h : PBw b X ex p) : PB b X ex p := ⟨h.pw.pt⟩
def bAnd (p q : BT) : BT := fun n e Q => p n e fun n1 c => if c = true then q n1 e Q else Q n1 false
def bOr (p q : BT) : BT := fun n e Q => p n e fun n1 c => if c = true then Q n1 true else q n1 e Q
theorem pbw_and1 {a : Expr} {pos : Pos} {p : BT} (h : PB b X a p) : PBw b X (.BoolOp .And [a] pos) p := ⟨pw_and1 h.pt⟩
theorem pbw_or1 {a : Expr} {pos : Pos} {p : BT} (h : PB b X a p) : PBw b X (.BoolOp .Or [a] pos) p := ⟨pw_or1 h.pt⟩
theorem pbw_and {a c : Expr} {rest : List Expr} {pos : Pos} {p q : BT} (h : PB b X a p) (hq : PBw b X (.BoolOp .And (c :: rest) pos) q) : PBw b X (.BoolOp .And (a :: c :: rest) pos) (bAnd p q) := by
  refine ⟨weakW (pw_and h.pt hq.pw) ?_⟩
  rintro σ H Q ⟨F, e, n, Qp, R, h, k⟩
  refine liftB_of R h fun n1 c h1 F1 H1 R1 s1 => ?_
  cases c with
  | true => exact iteT (liftB_of R1 (iT h1) fun n2 c h2 F2 H2 R2 s2 => k n2 c h2 F2 H2 (s1.trans s2))
  | false => exact iteF (k n1 false (iF h1) F1 H1 s1)
theorem pbw_or {a c : Expr} {rest : List Expr} {pos : Pos} {p q : BT} (h : PB b X a p) (hq : PBw b X (.BoolOp .Or (c :: rest) pos) q) : PBw b X (.BoolOp .Or (a :: c :: rest) pos) (bOr p q) := by
  refine ⟨weakW (pw_or h.pt hq.pw) ?_⟩
  rintro σ H Q ⟨F, e, n, Qp, R, h, k⟩
  refine liftB_of R h fun n1 c h1 F1 H1 R1 s1 => ?_
  cases c with
  | false => exact iteF (liftB_of R1 (iF h1) fun n2 c h2 F2 H2 R2 s2 => k n2 c h2 F2 H2 (s1.trans s2))
  | true => exact iteT (k n1 true (iT h1) F1 H1 s1)
/-! ### and, or, not, if as values -/
def pAnd (p q : VT) : VT := fun n e Q => p n e fun n1 d => ∃ c, d = .bool c ∧ if c = true then q n1 e Q else Q n1 (.bool false)
def pOr (p q : VT) : VT := fun n e Q => p n e fun n1 d => ∃ c, d = .bool c ∧ if c = true then Q n1 (.bool true) else q n1 e Q
def pNot (p : VT) : VT := fun n e Q => p n e fun n1 d => ∃ c, d = .bool c ∧ Q n1 (.bool (!c))
def pIf (t : BT) (p q : VT) : VT := fun n e Q => t n e fun n1 c => if c = true then p n1 e Q else q n1 e Q
theorem pv_one {op} {a : Expr} {pos : Pos} {p : VT} (h : PV b X a p) : PV b X (.BoolOp op [a] pos) p := ⟨pe_one h.pe⟩
theorem pv_and {a c : Expr} {rest : List Expr} {pos : Pos} {p q : VT} (h : PV b X a p) (hq : PV b X (.BoolOp .And (c :: rest) pos) q) : PV b X (.BoolOp .And (a :: c :: rest) pos) (pAnd p q) := by
  refine ⟨weakE (pe_and h.pe hq.pe) ?_⟩
  rintro σ H Q ⟨F, e, n, Qp, R, h, k⟩
  refine liftV_of R h fun n1 d ⟨c, ed, h1⟩ F1 H1 v R1 s1 q1 => ?_
  subst ed
  refine ⟨c, q1.bool_of, ?_⟩
  cases c with
  | true => exact iteT (liftV_of R1 (iT h1) fun n2 c h2 F2 H2 v R2 s2 q2 => k n2 c h2 F2 H2 v (s1.trans s2) q2)
  | false => exact iteF (k n1 _ (iF h1) F1 H1 _ s1 (.bl false))
theorem pv_or {a c : Expr} {rest : List Expr} {pos : Pos} {p q : VT} (h : PV b X a p) (hq : PV b X (.BoolOp .Or (c :: rest) pos) q) : PV b X (.BoolOp .Or (a :: c :: rest) pos) (pOr p q) := by
  refine ⟨weakE (pe_or h.pe hq.pe) ?_⟩
  rintro σ H Q ⟨F, e, n, Qp, R, h, k⟩
  refine liftV_of R h fun n1 d ⟨c, ed, h1⟩ F1 H1 v R1 s1 q1 => ?_
  subst ed
  refine ⟨c, q1.bool_of, ?_⟩
  cases c with
  | false => exact iteF (liftV_of R1 (iF h1) fun n2 c h2 F2 H2 v R2 s2 q2 => k n2 c h2 F2 H2 v (s1.trans s2) q2)
  | true => exact iteT (k n1 _ (iT h1) F1 H1 _ s1 (.bl true))
theorem pv_not {a : Expr} {pos : Pos} {p : VT} (h : PV b X a p) : PV b X (.UnaryOp .Not a pos) (pNot p) := by
  refine ⟨weakE (pe_not h.pe) ?_⟩
  rintro σ H Q ⟨F, e, n, Qp, R, h, k⟩
  refine liftV_of R h fun n1 d ⟨c, ed, h1⟩ F1 H1 v R1 s1 q1 => ?_
  subst ed
  exact ⟨c, q1.bool_of, k n1 _ h1 F1 H1 _ s1 (.bl _)⟩
theorem pv_if {t a c : Expr} {pos : Pos} {pt : BT} {p q : VT} (ht : PB b X t pt) (ha : PV b X a p) (hc : PV b X c q) : PV b X (.IfExp t a c pos) (pIf pt p q) := by
  refine ⟨weakE (pe_ifExp ht.pt ha.pe hc.pe) ?_⟩
  rintro σ H Q ⟨F, e, n, Qp, R, h, k⟩
  refine liftB_of R h fun n1 c h1 F1 H1 R1 s1 => ?_
  cases c with
  | true => exact iteT (liftV_of R1 (iT h1) fun n2 c h2 F2 H2 v R2 s2 q2 => k n2 c h2 F2 H2 v (s1.trans s2) q2)
  | false => exact iteF (liftV_of R1 (iF h1) fun n2 c h2 F2 H2 v R2 s2 q2 => k n2 c h2 F2 H2 v (s1.trans s2) q2)

/-! ### the built-in operators, by data -/
theorem opp_I {K : PySem.W.Frag} {C : Int → Int → Prop} {g : Int → Int → Int} : OpP K (rI C fun i j => .int (g i j)) (fun d1 d2 Q => match d1, d2 with | .int i, .int j => C i j ∧ Q (.int (g i j)) | _, _ => False) := by
  intro G H x y d1 d2 Qd Q hs h1 h2 h k
  cases h1 <;> cases h2 <;> first | exact h.elim | exact ⟨_, _, rfl, rfl, h.1, k _ h.2 G H _ (st0 hs) (.int _)⟩
theorem opp_B {K : PySem.W.Frag} {g : Int → Int → Bool} : OpP K (rI0 fun i j => .bl (g i j)) (fun d1 d2 Q => match d1, d2 with | .int i, .int j => Q (.bool (g i j)) | _, _ => False) := by
  intro G H x y d1 d2 Qd Q hs h1 h2 h k
  cases h1 <;> cases h2 <;> first | exact h.elim | exact ⟨_, _, rfl, rfl, k _ h G H _ (st0 hs) (.bl _)⟩
def oSub : D → D → (D → Prop) → Prop := fun d1 d2 Q => match d1, d2 with | .int i, .int j => Q (.int (i - j)) | _, _ => False
theorem opp_sub {K : PySem.W.Frag} : OpP K (rI0 fun i j => .int (i - j)) oSub := by
  intro G H x y d1 d2 Qd Q hs h1 h2 h k
  cases h1 <;> cases h2 <;> first | exact h.elim | exact ⟨_, _, rfl, rfl, k _ h G H _ (st0 hs) (.int _)⟩
def oMul : D → D → (D → Prop) → Prop := fun d1 d2 Q => match d1, d2 with | .int i, .int j => (CMul i j ∨ CMulW i j) ∧ Q (.int (i * j)) | _, _ => False
def rMulA : R2 := fun x y H Q => (rI CMul fun i j => .int (i * j)) x y H Q ∨ (rI CMulW fun i j => .int (i * j)) x y H Q
theorem or_mul : OpR X (binaryOp .Mult) rMulA := op_mul.or op_mulW
theorem opp_mul {K : PySem.W.Frag} : OpP K rMulA oMul := by
  intro G H x y d1 d2 Qd Q hs h1 h2 h k
  cases h1 <;> cases h2 <;> first | exact h.elim | skip
  obtain ⟨c | c, q⟩ := h
  · exact .inl ⟨_, _, rfl, rfl, c, k _ q G H _ (st0 hs) (.int _)⟩
  · exact .inr ⟨_, _, rfl, rfl, c, k _ q G H _ (st0 hs) (.int _)⟩
def oFdv : D → D → (D → Prop) → Prop := fun d1 d2 Q => match d1, d2 with | .int i, .int j => CDivW i j ∧ Q (.int (i / j)) | _, _ => False
def oMod : D → D → (D → Prop) → Prop := fun d1 d2 Q => match d1, d2 with | .int i, .int j => 0 < j ∧ Q (.int (i % j)) | _, _ => False
def oPow : D → D → (D → Prop) → Prop := fun d1 d2 Q => match d1, d2 with | .int i, .int j => CPow i j ∧ Q (.int (i ^ j.toNat)) | _, _ => False
def oLt : D → D → (D → Prop) → Prop := fun d1 d2 Q => match d1, d2 with | .int i, .int j => Q (.bool (decide (i < j))) | _, _ => False
def oLe : D → D → (D → Prop) → Prop := fun d1 d2 Q => match d1, d2 with | .int i, .int j => Q (.bool (decide (i ≤ j))) | _, _ => False
def oGt : D → D → (D → Prop) → Prop := fun d1 d2 Q => match d1, d2 with | .int i, .int j => Q (.bool (decide (j < i))) | _, _ => False
def oGe : D → D → (D → Prop) → Prop := fun d1 d2 Q => match d1, d2 with | .int i, .int j => Q (.bool (decide (j ≤ i))) | _, _ => False
theorem opp_fdv {K : PySem.W.Frag} : OpP K (rI CDivW fun i j => .int (i / j)) oFdv := opp_I
theorem opp_mod {K : PySem.W.Frag} : OpP K (rI (fun _ j => 0 < j) fun i j => .int (i % j)) oMod := opp_I
theorem opp_pow {K : PySem.W.Frag} : OpP K (rI CPow fun i j => .int (i ^ j.toNat)) oPow := opp_I
theorem opp_lt {K : PySem.W.Frag} : OpP K (rI0 fun i j => .bl (decide (i < j))) oLt := opp_B
theorem opp_le {K : PySem.W.Frag} : OpP K (rI0 fun i j => .bl (decide (i ≤ j))) oLe := opp_B
theorem opp_gt {K : PySem.W.Frag} : OpP K (rI0 fun i j => .bl (decide (j < i))) oGt := opp_B
theorem opp_ge {K : PySem.W.Frag} : OpP K (rI0 fun i j => .bl (decide (j ≤ i))) oGe := opp_B
/-- +, of ints, texts, lists, tuples -/
def oAdd : D → D → (D → Prop) → Prop := fun d1 d2 Q => match d1, d2 with
  | .int i, .int j => Q (.int (i + j))
  | .str s, .str t => s.length + t.length ≤ sizeLine ∧ Q (.str (s ++ t))
  | .list a, .list c => a.length + c.length ≤ sizeLine ∧ Q (.list (a ++ c))
  | .tuple a, .tuple c => a.length + c.length ≤ sizeLine ∧ Q (.tuple (a ++ c))
  | _, _ => False
def rStrAdd : R2 := fun x y H Q => ∃ i j, x = .str i ∧ y = .str j ∧ i.length + j.length ≤ sizeLine ∧ Q (.str (i ++ j)) H
def rAddA (K : PySem.W.Frag) : R2 := fun x y H Q => (rI0 fun i j => .int (i + j)) x y H Q ∨ rStrAdd x y H Q ∨ rCat x y H Q ∨ rCatA K x y H Q
theorem or_add : OpR X (binaryOp .Add) (rAddA X.K) := op_add.or (OpR.or (r := rStrAdd) op_add_str (op_cat.or op_catA))
theorem opp_add {K : PySem.W.Frag} : OpP K (rAddA K) oAdd := by
  intro G H x y d1 d2 Qd Q hs h1 h2 h k
  cases h1 with
  | int i => cases h2 <;> first | exact h.elim | exact .inl ⟨_, _, rfl, rfl, k _ h G H _ (st0 hs) (.int _)⟩
  | str i => cases h2 <;> first | exact h.elim | exact .inr (.inl ⟨_, _, rfl, rfl, h.1, k _ h.2 G H _ (st0 hs) (.str _)⟩)
  | lst a1 a2 =>
    cases h2 with
    | lst c1 c2 =>
      obtain ⟨hz, q⟩ := h
      refine .inr (.inr (.inl ⟨_, _, _, _, rfl, rfl, hs _ _ a1, hs _ _ c1, by rw [a2.length, c2.length]; exact hz, fun p hp => ?_⟩))
      exact k _ q _ _ _ (stNew hs hp) (.lst upd_same (DqAll.mono (stNew hs hp).fz (a2.append c2)))
    | _ => exact h.elim
  | tup a1 a2 =>
    cases h2 with
    | tup c1 c2 =>
      obtain ⟨hz, q⟩ := h
      refine .inr (.inr (.inr ⟨_, _, _, _, rfl, rfl, SqT.over hs a1, SqT.over hs c1, by rw [a2.length, c2.length]; exact hz, fun z => ?_, fun z1 z2 => ?_, fun z1 z2 p hp => ?_⟩))
      · subst z
        cases a2
        exact k _ q G H _ (st0 hs) (.tup c1 c2)
      · subst z2
        cases c2
        rw [List.append_nil] at q
        exact k _ q G H _ (st0 hs) (.tup a1 a2)
      · exact k _ q _ _ _ (stNew hs hp) (.tup (.inl (.inl upd_same)) (DqAll.mono (stNew hs hp).fz (a2.append c2)))
    | _ => exact h.elim
  | _ => exact h.elim
/-- == of data of any depth -/
def oEq : D → D → (D → Prop) → Prop := fun d e Q => SeqAt.shaped d = true ∧ SeqAt.shaped e = true ∧ Q (.bool (PyData.eqv d e))
def oNe : D → D → (D → Prop) → Prop := fun d e Q => SeqAt.shaped d = true ∧ SeqAt.shaped e = true ∧ Q (.bool (!PyData.eqv d e))
theorem opp_eq {K : PySem.W.Frag} : OpP K (rEqD K) oEq := by
  intro G H x y d1 d2 Qd Q hs h1 h2 ⟨s1, s2, q⟩ k
  exact ⟨d1, d2, h1.toDp hs, h2.toDp hs, s1, s2, k _ q G H _ (st0 hs) (.bl _)⟩
theorem opp_ne {K : PySem.W.Frag} : OpP K (rNeD K) oNe := by
  intro G H x y d1 d2 Qd Q hs h1 h2 ⟨s1, s2, q⟩ k
  exact ⟨d1, d2, h1.toDp hs, h2.toDp hs, s1, s2, k _ q G H _ (st0 hs) (.bl _)⟩
def isN : D → Bool
  | .none => true
  | _ => false
def oIs : D → D → (D → Prop) → Prop := fun d e Q => e = .none ∧ Q (.bool (isN d))
def oIsNot : D → D → (D → Prop) → Prop := fun d e Q => e = .none ∧ Q (.bool (!isN d))
def rIsN' : R2 := fun x y H Q => y = .non ∧ Q (.bl (decide (x = .non))) H
def rNotN' : R2 := fun x y H Q => y = .non ∧ Q (.bl (!decide (x = .non))) H
theorem or_is : OpR X (compareOp .Is) rIsN' := op_isN
theorem or_isnot : OpR X (compareOp .IsNot) rNotN' := op_notN
theorem opp_is {K : PySem.W.Frag} : OpP K rIsN' oIs := by
  rintro G H x y d1 d2 Qd Q hs h1 h2 ⟨rfl, q⟩ k
  refine ⟨h2.none_of, ?_⟩
  have e : decide (x = .non) = isN d1 := by
    cases h1 <;> first | rfl | exact decide_eq_true rfl | exact decide_eq_false (fun z => by cases z)
  rw [e]
  exact k _ q G H _ (st0 hs) (.bl _)
theorem opp_isnot {K : PySem.W.Frag} : OpP K rNotN' oIsNot := by
  rintro G H x y d1 d2 Qd Q hs h1 h2 ⟨rfl, q⟩ k
  refine ⟨h2.none_of, ?_⟩
  have e : (!decide (x = .non)) = (!isN d1) := by
    cases h1 <;> first | rfl | (rw [decide_eq_true rfl]; rfl) | (rw [decide_eq_false (fun z => by cases z)]; rfl)
  rw [e]
  exact k _ q G H _ (st0 hs) (.bl _)
end
end PL

set_option Elab.async false
set_option linter.all false
set_option maxRecDepth 100000
set_option maxHeartbeats 4000000
/-! ## Places, slices, built-ins by data -/
namespace PL
open PySem PySem.Spec PyProof.Rows L2
open Classical
section
variable {K : PySem.W.Frag} {G H : Hp}
theorem atI_data {xs : List V} {ds : List D} {i : Int} {d : D} (h : DqAll K G xs ds) (e : atI ds i = some d) : ∃ v, atI xs i = some v ∧ Dq K G v d := by
  unfold atI at e ⊢
  rw [h.length]
  cases q : ixN ds.length i with
  | none => rw [q] at e; cases e
  | some j =>
    rw [q] at e
    exact h.get e
end
/-- xs[lo:hi] -/
def cut {α : Type} (xs : List α) (lo hi : Option Int) : List α := (xs.drop (HT.sIx xs.length 0 lo)).take (HT.sIx xs.length xs.length hi - HT.sIx xs.length 0 lo)
theorem cut_data {K : PySem.W.Frag} {G : Hp} {xs : List V} {ds : List D} {lo hi : Option Int} (h : DqAll K G xs ds) : DqAll K G (cutV xs lo hi) (cut ds lo hi) := by
  unfold cutV cut
  rw [h.length]
  exact (h.drop _).take _
def cutT (z : Str) (lo hi : Option Int) : Str := cutS z lo hi
section
variable {X : Cx} {b : Bs}
/-! ### a place of a list, a tuple, a text -/
def oIx : D → D → (D → Prop) → Prop := fun d1 d2 Q => match d1, d2 with
  | .list ds, .int i => ∃ d, atI ds i = some d ∧ Q d
  | .tuple ds, .int i => ∃ d, atI ds i = some d ∧ Q d
  | .str z, .int i => z.length ≤ sizeLine ∧ ∃ c, atI z.cps.toList i = some c ∧ Q (.str ⟨#[c]⟩)
  | _, _ => False
theorem opp_ix {K : PySem.W.Frag} : OpP K (rIx K) oIx := by
  intro G H x y d1 d2 Qd Q hs h1 h2 h k
  cases h1 with
  | lst a1 a2 =>
    cases h2 with
    | int i =>
      obtain ⟨d, e, q⟩ := h
      obtain ⟨v, e1, q1⟩ := atI_data a2 e
      exact .inl ⟨_, _, _, v, rfl, rfl, .inl (.inl (hs _ _ a1)), e1, k _ q G H _ (st0 hs) q1⟩
    | _ => exact h.elim
  | tup a1 a2 =>
    cases h2 with
    | int i =>
      obtain ⟨d, e, q⟩ := h
      obtain ⟨v, e1, q1⟩ := atI_data a2 e
      exact .inr (.inl ⟨_, _, _, v, rfl, rfl, SqT.over hs a1, e1, k _ q G H _ (st0 hs) q1⟩)
    | _ => exact h.elim
  | str z =>
    cases h2 with
    | int i =>
      obtain ⟨hz, c, e, q⟩ := h
      exact .inr (.inr ⟨z, i, c, rfl, rfl, hz, e, k _ q G H _ (st0 hs) (.str _)⟩)
    | _ => exact h.elim
  | _ => cases h2 <;> exact h.elim
theorem pv_ix {a i : Expr} {pa pi : VT} {pos : Pos} (ha : PV b X a pa) (hi : PV b X i pi) (hs : PlainIx i := by exact fun _ _ => rfl) : PV b X (.Subscript a i pos) (pBin oIx pa pi) :=
  pv_op2 (a := a) (c := i) (pe_ix ix_seq ha.pe hi.pe hs) opp_ix
/-! ### slices -/
abbrev NT := Nat → En → (Nat → Option Int → Prop) → Prop
def liftN (K : PySem.W.Frag) (b : Bs) (p : NT) : TO := fun σ H Q => ∃ F e n Qp, Rel K b F H σ e n ∧ p n e Qp ∧ ∀ n' c, Qp n' c → ∀ F' H', Stp b.pt n' F H F' H' → Q c H'
structure PN (b : Bs) (X : Cx) (ex : Option Expr) (p : NT) : Prop where
  po : L2.PO X ex (liftN X.K b p)
theorem weakO {ex : Option Expr} {t t' : TO} (h : L2.PO X ex t) (w : ∀ σ H Q, t' σ H Q → t σ H Q) : L2.PO X ex t' := ⟨fun pins s σ H Q I q => h.run pins s σ H Q I (w _ _ _ q)⟩
def nNo : NT := fun n _ Q => Q n none
def nAt (p : VT) : NT := fun n e Q => p n e fun n1 d => ∃ i, d = .int i ∧ Q n1 (some i)
theorem pn_none : PN b X none nNo := by
  refine ⟨weakO po_none ?_⟩
  rintro σ H Q ⟨F, e, n, Qp, R, h, k⟩
  exact k n none h F H R.refl
theorem pn_some {a : Expr} {p : VT} (h : PV b X a p) : PN b X (some a) (nAt p) := by
  refine ⟨weakO (po_some h.pe) ?_⟩
  rintro σ H Q ⟨F, e, n, Qp, R, h, k⟩
  refine liftV_of R h fun n1 d ⟨i, ed, h1⟩ F1 H1 v R1 s1 q1 => ?_
  subst ed
  exact ⟨i, q1.int_of, k n1 _ h1 F1 H1 s1⟩
def oSl : D → Option Int → Option Int → (D → Prop) → Prop := fun d lo hi Q => match d with
  | .list ds => Q (.list (cut ds lo hi))
  | .tuple ds => Q (.tuple (cut ds lo hi))
  | .str z => z.length ≤ sizeLine ∧ Q (.str (cutT z lo hi))
  | _ => False
def pSl (p : VT) (l u : NT) : VT := fun n e Q => p n e fun n1 d => l n1 e fun n2 lo => u n2 e fun n3 hi => oSl d lo hi (Q n3)
def rSlAny (K : PySem.W.Frag) : V → Option Int → Option Int → Hp → VK → Prop := fun x lo hi H Q => rSlL K x lo hi H Q ∨ (rSlA K x lo hi H Q ∨ rSlS x lo hi H Q)
theorem sl_any : SlR X (rSlAny X.K) := sl_list.or (sl_tupA.or sl_str)
theorem pv_slice {a : Expr} {lo hi : Option Expr} {p : VT} {l u : NT} {p2 pos : Pos} (ha : PV b X a p) (hl : PN b X lo l) (hu : PN b X hi u) : PV b X (.Subscript a (.Slice lo hi none p2) pos) (pSl p l u) := by
  refine ⟨weakE (pe_slice sl_any ha.pe hl.po hu.po) ?_⟩
  rintro σ H Q ⟨F, e, n, Qp, R, h, k⟩
  refine liftV_of R h fun n1 d h1 F1 H1 v R1 s1 q1 => ?_
  refine ⟨F1, e, n1, _, R1, h1, fun n2 i1 h2 F2 H2 s2 => ?_⟩
  have R2 := R1.step s2
  refine ⟨F2, e, n2, _, R2, h2, fun n3 i2 h3 F3 H3 s3 => ?_⟩
  have R3 := R2.step s3
  have q3 := Dq.mono (R1.plus_mono (s2.trans s3)) q1
  have k' := R3.behind (Qd := Qp n3) (Q := Q) fun d q F' H' v st dv => k n3 d q F' H' v (((s1.trans s2).trans s3).trans st) dv
  have hs := R3.plusH
  generalize plus F3 H3 σ e = G3 at q3 k' hs
  cases q3 with
  | lst a1 a2 =>
    refine .inl ⟨_, _, rfl, .inl (.inl (hs _ _ a1)), fun p hp => ?_⟩
    exact k' _ h3 _ _ _ (stNew hs hp) (.lst upd_same (DqAll.mono (stNew hs hp).fz (cut_data a2)))
  | tup a1 a2 =>
    refine .inr (.inl ⟨_, _, rfl, SqT.over hs a1, fun z => ?_, fun z p hp => ?_⟩)
    · refine k' _ h3 G3 H3 _ (st0 hs) (.tup a1 ?_)
      have c := cut_data (lo := i1) (hi := i2) a2
      unfold cutV at c
      rw [z.1, z.2, List.drop_zero, Nat.sub_zero, List.take_length] at c
      exact c
    · exact k' _ h3 _ _ _ (stNew hs hp) (.tup (.inl (.inl upd_same)) (DqAll.mono (stNew hs hp).fz (cut_data a2)))
  | str z => exact .inr (.inr ⟨z, rfl, h3.1, k' _ h3.2 G3 H3 _ (st0 hs) (.str _)⟩)
  | _ => exact h3.elim

/-! ### calls of built-ins -/
def pCa (o : List D → (D → Prop) → Prop) (pa : AT) : VT := fun n e Q => pa n e fun n1 ds => o ds (Q n1)
theorem pv_ca {ex : Expr} {r : List V → Hp → VK → Prop} {o : List D → (D → Prop) → Prop} {pa : AT} (h : PE X ex (tCB r (liftA X.K b pa))) (ho : CaP X.K r o) : PV b X ex (pCa o pa) := by
  refine ⟨weakE h ?_⟩
  rintro σ H Q ⟨F, e, n, Qp, R, h, k⟩
  refine liftA_of R h fun n1 ds h1 F1 H1 vs R1 s1 q1 => ?_
  exact ho _ _ _ _ _ _ R1.plusH q1 h1 (R1.behind fun d q F' H' v st dv => k n1 d q F' H' v (s1.trans st) dv)
theorem pv_callB {x : Str} {id : String} {r : List V → Hp → VK → Prop} {o : List D → (D → Prop) → Prop} {a : Expr} {es : List Expr} {p pos : Pos} {pa : AT} (hc : CallR X (.builtin id) r) (ho : CaP X.K r o) (hm : X.mg x = none) (hv : bootBuiltins x = some (.builtin id)) (ha : PAs b X (a :: es) pa)
    (hg : Gl X x := by rfl) (hn : x ≠ "__name__" := by decide) (hdb : (x == ("__debug__" : Str)) = false := by decide) (he : starEach (a :: es) X.env = (false, eval a X.env) :: starEach es X.env := by rfl) (hpl : (backTo pos (starEach es X.env)).any (·.1) = false := by rfl) :
    PV b X (.Call (.Name x p) (a :: es) [] pos) (pCa o pa) := pv_ca (pe_callB hc hg hm hv ha.pa hn hdb he hpl) ho
theorem pv_callTy {x : Str} {id : String} {r : List V → Hp → VK → Prop} {o : List D → (D → Prop) → Prop} {a : Expr} {es : List Expr} {p pos : Pos} {pa : AT} (hc : CallR X (.type id) r) (ho : CaP X.K r o) (hm : X.mg x = none) (hv : bootBuiltins x = some (.type id)) (ha : PAs b X (a :: es) pa)
    (hg : Gl X x := by rfl) (hn : x ≠ "__name__" := by decide) (hdb : (x == ("__debug__" : Str)) = false := by decide) (he : starEach (a :: es) X.env = (false, eval a X.env) :: starEach es X.env := by rfl) (hpl : (backTo pos (starEach es X.env)).any (·.1) = false := by rfl) :
    PV b X (.Call (.Name x p) (a :: es) [] pos) (pCa o pa) := pv_ca (pe_callTy hc hg hm hv ha.pa hn hdb he hpl) ho
theorem pv_callF {x : Str} {id : String} {r : List V → Hp → VK → Prop} {o : List D → (D → Prop) → Prop} {a : Expr} {es : List Expr} {p pos : Pos} {pa : AT} (hc : CallR X (.builtin id) r) (ho : CaP X.K r o) (hm : X.mg x = some (.builtin id)) (ha : PAs b X (a :: es) pa)
    (hg : Gl X x := by rfl) (hdb : (x == ("__debug__" : Str)) = false := by decide) (he : starEach (a :: es) X.env = (false, eval a X.env) :: starEach es X.env := by rfl) (hpl : (backTo pos (starEach es X.env)).any (·.1) = false := by rfl) :
    PV b X (.Call (.Name x p) (a :: es) [] pos) (pCa o pa) := pv_ca (pe_callBfun hc hg hm ha.pa hdb he hpl) ho
/-- built-ins that make a list -/
def CaO (K : PySem.W.Frag) (r : List V → Hp → VK → Prop) (o : List D → (List D → Prop) → Prop) : Prop := ∀ (G H : Hp) (xs : List V) (ds : List D) (Qd : List D → Prop) (Q : VK), (∀ a u, G a = some u → H a = some u) → DqAll K G xs ds → o ds Qd →
  (∀ ys, Qd ys → ∀ p vs, H p = none → DqAll K G vs ys → Q (.ref p) (upd H p (.lst vs))) → r xs H Q
def oCa (o : List D → (List D → Prop) → Prop) (pa : AT) : OT := fun n e Q => pa n e fun n1 ds => o ds (Q n1)
section
variable {K : PySem.W.Frag} {F H F1 H1 : Hp} {σ : L2.St} {e : En} {n n1 : Nat} {p : Addr} {o : HO}
theorem Rel.newObj (R1 : Rel K b F1 H1 σ e n1) (s1 : Stp b.pt n1 F H F1 H1) (hp : H1 p = none) : Stp b.pt n1 F H F1 (upd H1 p o) ∧ F1 p = none ∧ H p = none ∧ ∀ c u, plus F1 H1 σ e c = some u → plus F1 (upd H1 p o) σ e c = some u := by
  have hF : F1 p = none := by
    cases z : F1 p with
    | none => rfl
    | some o => rw [R1.sub p o z] at hp; cases hp
  refine ⟨⟨s1.fz, fun c u q => ?_, fun c u hc q => ?_, s1.new, fun q hq => ?_⟩, hF, ?_, fun c u q => ?_⟩
  · rw [upd_ne (ne_of_none q hF)]; exact s1.sub c u q
  · rw [upd_ne (ne_of_none (s1.keep c u hc q) hp)]; exact s1.keep c u hc q
  · obtain ⟨g1, x, y, w, g2, g3⟩ := s1.pot q hq
    exact ⟨g1, x, y, w, by rw [upd_ne (ne_of_none g2 hp)]; exact g2, g3⟩
  · cases z : H p with
    | none => rfl
    | some u =>
      by_cases c : b.pt = some p
      · obtain ⟨_, x, y, w, g2, _⟩ := s1.pot p c
        rw [hp] at g2; cases g2
      · rw [s1.keep p u c z] at hp; cases hp
  · unfold plus at q ⊢
    by_cases m : Mine σ e c
    · rw [if_pos m] at q ⊢
      rw [upd_ne (ne_of_none q hp)]; exact q
    · rw [if_neg m] at q ⊢; exact q
end
theorem po_ca {ex : Expr} {r : List V → Hp → VK → Prop} {o : List D → (List D → Prop) → Prop} {pa : AT} (h : PE X ex (tCB r (liftA X.K b pa))) (ho : CaO X.K r o) : PO b X ex (oCa o pa) := by
  refine ⟨weakE h ?_⟩
  rintro σ H Q ⟨F, e, n, Qp, R, h, k⟩
  refine liftA_of R h fun n1 ds h1 F1 H1 vs R1 s1 q1 => ?_
  refine ho _ _ _ _ _ _ R1.plusH q1 h1 fun ys q p ws hp hw => ?_
  obtain ⟨st, f1, f0, f3⟩ := R1.newObj (o := .lst ws) s1 hp
  exact k n1 ys q F1 _ p ws st f1 f0 upd_same (DqAll.mono f3 hw)
theorem po_callB {x : Str} {id : String} {r : List V → Hp → VK → Prop} {o : List D → (List D → Prop) → Prop} {a : Expr} {es : List Expr} {p pos : Pos} {pa : AT} (hc : CallR X (.builtin id) r) (ho : CaO X.K r o) (hm : X.mg x = none) (hv : bootBuiltins x = some (.builtin id)) (ha : PAs b X (a :: es) pa)
    (hg : Gl X x := by rfl) (hn : x ≠ "__name__" := by decide) (hdb : (x == ("__debug__" : Str)) = false := by decide) (he : starEach (a :: es) X.env = (false, eval a X.env) :: starEach es X.env := by rfl) (hpl : (backTo pos (starEach es X.env)).any (·.1) = false := by rfl) :
    PO b X (.Call (.Name x p) (a :: es) [] pos) (oCa o pa) := po_ca (pe_callB hc hg hm hv ha.pa hn hdb he hpl) ho
theorem po_callTy {x : Str} {id : String} {r : List V → Hp → VK → Prop} {o : List D → (List D → Prop) → Prop} {a : Expr} {es : List Expr} {p pos : Pos} {pa : AT} (hc : CallR X (.type id) r) (ho : CaO X.K r o) (hm : X.mg x = none) (hv : bootBuiltins x = some (.type id)) (ha : PAs b X (a :: es) pa)
    (hg : Gl X x := by rfl) (hn : x ≠ "__name__" := by decide) (hdb : (x == ("__debug__" : Str)) = false := by decide) (he : starEach (a :: es) X.env = (false, eval a X.env) :: starEach es X.env := by rfl) (hpl : (backTo pos (starEach es X.env)).any (·.1) = false := by rfl) :
    PO b X (.Call (.Name x p) (a :: es) [] pos) (oCa o pa) := po_ca (pe_callTy hc hg hm hv ha.pa hn hdb he hpl) ho
/-- + of two lists -/
def oCat (pa pb : VT) : OT := fun n e Q => pa n e fun n1 d1 => pb n1 e fun n2 d2 => ∃ a c, d1 = .list a ∧ d2 = .list c ∧ a.length + c.length ≤ sizeLine ∧ Q n2 (a ++ c)
theorem po_cat {a c : Expr} {pa pb : VT} {pos : Pos} (ha : PV b X a pa) (hc : PV b X c pb) : PO b X (.BinOp a .Add c pos) (oCat pa pb) := by
  refine ⟨weakE (pe_op op_cat ha.pe hc.pe) ?_⟩
  rintro σ H Q ⟨F, e, n, Qp, R, h, k⟩
  refine liftV_of R h fun n1 d1 h1 F1 H1 v1 R1 s1 q1 => ?_
  refine liftV_of R1 h1 fun n2 d2 ⟨y1, y2, e1, e2, hz, h2⟩ F2 H2 v2 R2 s2 q2 => ?_
  subst e1 e2
  obtain ⟨l1, x1, rfl, g1, d1⟩ := (Dq.mono (R1.plus_mono s2) q1).list_of
  obtain ⟨l2, x2, rfl, g2, d2⟩ := q2.list_of
  refine ⟨_, _, _, _, rfl, rfl, R2.plusH _ _ g1, R2.plusH _ _ g2, by rw [d1.length, d2.length]; exact hz, fun p hp => ?_⟩
  obtain ⟨st, f1, f0, f3⟩ := R2.newObj (o := .lst (x1 ++ x2)) (s1.trans s2) hp
  exact k n2 _ h2 F2 _ p _ st f1 f0 upd_same (DqAll.mono f3 (d1.append d2))
/-- xs[lo:hi] of a list, a new list -/
def oSlL (p : VT) (l u : NT) : OT := fun n e Q => p n e fun n1 d => l n1 e fun n2 lo => u n2 e fun n3 hi => ∃ ds, d = .list ds ∧ Q n3 (cut ds lo hi)
theorem po_slice {a : Expr} {lo hi : Option Expr} {p : VT} {l u : NT} {p2 pos : Pos} (ha : PV b X a p) (hl : PN b X lo l) (hu : PN b X hi u) : PO b X (.Subscript a (.Slice lo hi none p2) pos) (oSlL p l u) := by
  refine ⟨weakE (pe_slice sl_list ha.pe hl.po hu.po) ?_⟩
  rintro σ H Q ⟨F, e, n, Qp, R, h, k⟩
  refine liftV_of R h fun n1 d h1 F1 H1 v R1 s1 q1 => ?_
  refine ⟨F1, e, n1, _, R1, h1, fun n2 i1 h2 F2 H2 s2 => ?_⟩
  have R2 := R1.step s2
  refine ⟨F2, e, n2, _, R2, h2, fun n3 i2 ⟨ds, ed, h3⟩ F3 H3 s3 => ?_⟩
  subst ed
  have R3 := R2.step s3
  obtain ⟨l1, x1, rfl, g1, d1⟩ := (Dq.mono (R1.plus_mono (s2.trans s3)) q1).list_of
  refine ⟨_, _, rfl, .inl (.inl (R3.plusH _ _ g1)), fun p hp => ?_⟩
  obtain ⟨st, f1, f0, f3⟩ := R3.newObj (o := .lst (cutV x1 i1 i2)) ((s1.trans s2).trans s3) hp
  exact k n3 _ h3 F3 _ p _ st f1 f0 upd_same (DqAll.mono f3 (cut_data d1))
/-- xs[::-1] -/
def oRev (p : VT) : OT := fun n e Q => p n e fun n1 d => ∃ ds, d = .list ds ∧ Q n1 ds.reverse
theorem po_rev {a : Expr} {p : VT} {k : Nat} {p1 p2 p3 pos : Pos} (ha : PV b X a p) : PO b X (.Subscript a (.Slice none none (some (.UnaryOp .USub (.Constant (.int 1) k p1) p2)) p3) pos) (oRev p) := by
  refine ⟨weakE (pe_revL ha.pe) ?_⟩
  rintro σ H Q ⟨F, e, n, Qp, R, h, k⟩
  refine liftV_of R h fun n1 d ⟨ds, ed, h1⟩ F1 H1 v R1 s1 q1 => ?_
  subst ed
  obtain ⟨l1, x1, rfl, g1, d1⟩ := q1.list_of
  refine ⟨_, _, rfl, .inl (.inl (R1.plusH _ _ g1)), fun p hp => ?_⟩
  obtain ⟨st, f1, f0, f3⟩ := R1.newObj (o := .lst x1.reverse) s1 hp
  exact k n1 _ h1 F1 _ p _ st f1 f0 upd_same (DqAll.mono f3 d1.reverse)
end
end PL

set_option Elab.async false
set_option linter.all false
set_option maxRecDepth 100000
set_option maxHeartbeats 4000000
/-! ## The built-ins, one by one -/
namespace PL
open PySem PySem.Spec PyProof.Rows L2
open Classical
section
variable {K : PySem.W.Frag} {G H : Hp}
theorem DqAll.ints : ∀ {xs : List V} {ns : List Int}, DqAll K G xs (ns.map PyData.int) → xs = ns.map V.int
  | _, [], h => by cases h; rfl
  | _, n :: ns, h => by
    cases h with
    | cons h t => rw [h.int_of, t.ints]; rfl
theorem DqAll.bools : ∀ {xs : List V} {ns : List Bool}, DqAll K G xs (ns.map PyData.bool) → xs = ns.map V.bl
  | _, [], h => by cases h; rfl
  | _, n :: ns, h => by
    cases h with
    | cons h t => rw [h.bool_of, t.bools]; rfl
theorem DqAll.strs : ∀ {xs : List V} {ns : List Str}, DqAll K G xs (ns.map PyData.str) → xs = ns.map V.str
  | _, [], h => by cases h; rfl
  | _, n :: ns, h => by
    cases h with
    | cons h t => rw [h.str_of, t.strs]; rfl
theorem DqAll.ofInts : ∀ (ns : List Int), DqAll K G (ns.map V.int) (ns.map PyData.int)
  | [] => .nil
  | n :: ns => .cons (.int n) (DqAll.ofInts ns)
theorem DqAll.ofStrs : ∀ (ns : List Str), DqAll K G (ns.map V.str) (ns.map PyData.str)
  | [] => .nil
  | n :: ns => .cons (.str n) (DqAll.ofStrs ns)
theorem DqAll.one_of {xs : List V} {d : D} (h : DqAll K G xs [d]) : ∃ v, xs = [v] ∧ Dq K G v d := by
  cases h with | cons h t => cases t; exact ⟨_, rfl, h⟩
theorem DqAll.two_of {xs : List V} {d d' : D} (h : DqAll K G xs [d, d']) : ∃ v w, xs = [v, w] ∧ Dq K G v d ∧ Dq K G w d' := by
  cases h with | cons h t => cases t with | cons h' t => cases t; exact ⟨_, _, rfl, h, h'⟩
end
section
variable {X : Cx} {b : Bs} {K : PySem.W.Frag}
/-! len -/
def oLen : List D → (D → Prop) → Prop := fun ds Q => match ds with
  | [.list xs] => Q (.int xs.length)
  | [.tuple xs] => Q (.int xs.length)
  | [.str z] => z.length ≤ sizeLine ∧ Q (.int z.length)
  | _ => False
def rLen1 (K : PySem.W.Frag) : List V → Hp → VK → Prop := fun xs H Q => ∃ p ys, xs = [.ref p] ∧ (SqL K H p ys ∨ SqT K H p ys) ∧ Q (.int ys.length) H
def rLen2 : List V → Hp → VK → Prop := fun xs H Q => ∃ z, xs = [.str z] ∧ z.length ≤ sizeLine ∧ Q (.int z.length) H
theorem cr_len : CallR X (.builtin "len") (fun xs H Q => rLen1 X.K xs H Q ∨ rLen2 xs H Q) := CallR.or (r := rLen1 X.K) (r' := rLen2) call_len_seq call_len_str
theorem cp_len : CaP K (fun xs H Q => rLen1 K xs H Q ∨ rLen2 xs H Q) oLen := by
  intro G H xs ds Qd Q hs hd h k
  match ds, h with
  | [.list ys], h =>
    obtain ⟨v, rfl, hv⟩ := hd.one_of
    obtain ⟨a, zs, rfl, g, dz⟩ := hv.list_of
    exact .inl ⟨a, zs, rfl, .inl (.inl (.inl (hs _ _ g))), by rw [dz.length]; exact k _ h G H _ (st0 hs) (.int _)⟩
  | [.tuple ys], h =>
    obtain ⟨v, rfl, hv⟩ := hd.one_of
    obtain ⟨a, zs, rfl, g, dz⟩ := hv.tup_of
    exact .inl ⟨a, zs, rfl, .inr (SqT.over hs g), by rw [dz.length]; exact k _ h G H _ (st0 hs) (.int _)⟩
  | [.str z], h =>
    obtain ⟨v, rfl, hv⟩ := hd.one_of
    rw [hv.str_of]
    exact .inr ⟨z, rfl, h.1, k _ h.2 G H _ (st0 hs) (.int _)⟩
/-! abs, int, str -/
def oAbs : List D → (D → Prop) → Prop := fun ds Q => match ds with
  | [.int i] => Q (.int i.natAbs)
  | _ => False
theorem cp_abs : CaP K (fun xs H Q => ∃ i, xs = [.int i] ∧ Q (.int (if i < 0 then -i else i)) H) oAbs := by
  intro G H xs ds Qd Q hs hd h k
  match ds, h with
  | [.int i], h =>
    obtain ⟨v, rfl, hv⟩ := hd.one_of
    rw [hv.int_of]
    refine ⟨i, rfl, ?_⟩
    have e : (if i < 0 then -i else i) = (i.natAbs : Int) := by split <;> omega
    rw [e]
    exact k _ h G H _ (st0 hs) (.int _)
def oInt : List D → (D → Prop) → Prop := fun ds Q => match ds with
  | [.int i] => Q (.int i)
  | [.bool c] => Q (.int (if c then 1 else 0))
  | [.str z] => ∃ n, PySem.intText? z = some n ∧ z.length ≤ 640 ∧ Q (.int n)
  | _ => False
def rInt1 : List V → Hp → VK → Prop := fun xs H Q => (∃ i, xs = [.int i] ∧ Q (.int i) H) ∨ ∃ k, xs = [.bl k] ∧ Q (.int (if k then 1 else 0)) H
def rInt2 : List V → Hp → VK → Prop := fun xs H Q => ∃ a n, xs = [.str a] ∧ PySem.intText? a = some n ∧ a.length ≤ 640 ∧ Q (.int n) H
theorem cr_int : CallR X (.type "int") (fun xs H Q => rInt1 xs H Q ∨ rInt2 xs H Q) := CallR.or (r := rInt1) (r' := rInt2) call_int1 call_int_str
theorem cp_int : CaP K (fun xs H Q => rInt1 xs H Q ∨ rInt2 xs H Q) oInt := by
  intro G H xs ds Qd Q hs hd h k
  match ds, h with
  | [.int i], h =>
    obtain ⟨v, rfl, hv⟩ := hd.one_of
    rw [hv.int_of]
    exact .inl (.inl ⟨i, rfl, k _ h G H _ (st0 hs) (.int _)⟩)
  | [.bool c], h =>
    obtain ⟨v, rfl, hv⟩ := hd.one_of
    rw [hv.bool_of]
    exact .inl (.inr ⟨c, rfl, k _ h G H _ (st0 hs) (.int _)⟩)
  | [.str z], ⟨n, h1, h2, h⟩ =>
    obtain ⟨v, rfl, hv⟩ := hd.one_of
    rw [hv.str_of]
    exact .inr ⟨z, n, rfl, h1, h2, k _ h G H _ (st0 hs) (.int _)⟩
def oStr : List D → (D → Prop) → Prop := fun ds Q => match ds with
  | [.int i] => i.natAbs.log2 < 1920 ∧ Q (.str (toString i))
  | [.str z] => Q (.str z)
  | _ => False
def rStr1 : List V → Hp → VK → Prop := fun xs H Q => ∃ i, xs = [.int i] ∧ i.natAbs.log2 < 1920 ∧ Q (.str (toString i)) H
def rStr2 : List V → Hp → VK → Prop := fun xs H Q => ∃ a, xs = [.str a] ∧ Q (.str a) H
theorem cr_str : CallR X (.type "str") (fun xs H Q => rStr1 xs H Q ∨ rStr2 xs H Q) := CallR.or (r := rStr1) (r' := rStr2) call_str_int SkE.call_str_str
theorem cp_str : CaP K (fun xs H Q => rStr1 xs H Q ∨ rStr2 xs H Q) oStr := by
  intro G H xs ds Qd Q hs hd h k
  match ds, h with
  | [.int i], h =>
    obtain ⟨v, rfl, hv⟩ := hd.one_of
    rw [hv.int_of]
    exact .inl ⟨i, rfl, h.1, k _ h.2 G H _ (st0 hs) (.str _)⟩
  | [.str z], h =>
    obtain ⟨v, rfl, hv⟩ := hd.one_of
    rw [hv.str_of]
    exact .inr ⟨z, rfl, k _ h G H _ (st0 hs) (.str _)⟩
/-! tuple, list, sorted -/
def oTuple : List D → (D → Prop) → Prop := fun ds Q => match ds with
  | [.list xs] => Q (.tuple xs)
  | [.tuple xs] => Q (.tuple xs)
  | _ => False
theorem cp_tuple : CaP K (fun xs H Q => ∃ p ys, xs = [.ref p] ∧ ((SqL K H p ys ∧ ∀ l, H l = none → Q (.ref l) (upd H l (.tup ys))) ∨ (SqT K H p ys ∧ Q (.ref p) H))) oTuple := by
  intro G H xs ds Qd Q hs hd h k
  match ds, h with
  | [.list ys], h =>
    obtain ⟨v, rfl, hv⟩ := hd.one_of
    obtain ⟨a, zs, rfl, g, dz⟩ := hv.list_of
    refine ⟨a, zs, rfl, .inl ⟨.inl (.inl (hs _ _ g)), fun l hl => ?_⟩⟩
    exact k _ h _ _ _ (stNew hs hl) (.tup (.inl (.inl upd_same)) (DqAll.mono (stNew hs hl).fz dz))
  | [.tuple ys], h =>
    obtain ⟨v, rfl, hv⟩ := hd.one_of
    obtain ⟨a, zs, rfl, g, dz⟩ := hv.tup_of
    exact ⟨a, zs, rfl, .inr ⟨SqT.over hs g, k _ h G H _ (st0 hs) (.tup g dz)⟩⟩
def oList : List D → (List D → Prop) → Prop := fun ds Q => match ds with
  | [.list xs] => Q xs
  | [.tuple xs] => Q xs
  | _ => False
theorem co_list : CaO K (fun xs H Q => ∃ p ys, xs = [.ref p] ∧ (SqL K H p ys ∨ SqT K H p ys) ∧ ∀ l, H l = none → Q (.ref l) (upd H l (.lst ys))) oList := by
  intro G H xs ds Qd Q hs hd h k
  match ds, h with
  | [.list ys], h =>
    obtain ⟨v, rfl, hv⟩ := hd.one_of
    obtain ⟨a, zs, rfl, g, dz⟩ := hv.list_of
    exact ⟨a, zs, rfl, .inl (.inl (.inl (hs _ _ g))), fun l hl => k _ h l zs hl dz⟩
  | [.tuple ys], h =>
    obtain ⟨v, rfl, hv⟩ := hd.one_of
    obtain ⟨a, zs, rfl, g, dz⟩ := hv.tup_of
    exact ⟨a, zs, rfl, .inr (SqT.over hs g), fun l hl => k _ h l zs hl dz⟩
/-- sorted, of ints -/
def oSortI : List D → (List D → Prop) → Prop := fun ds Q => ∃ ns : List Int, ds = [.list (ns.map PyData.int)] ∧ ∀ ms : List Int, ms.Perm ns → ms.Pairwise (· ≤ ·) → Q (ms.map PyData.int)
theorem co_sortI : CaO K (rSortedI K) oSortI := by
  rintro G H xs ds Qd Q hs hd ⟨ns, rfl, h⟩ k
  obtain ⟨v, rfl, hv⟩ := hd.one_of
  obtain ⟨a, zs, rfl, g, dz⟩ := hv.list_of
  have e := dz.ints
  subst e
  exact ⟨a, ns, rfl, .inl (.inl (hs _ _ g)), fun ms p h1 h2 hp => k _ (h ms h1 h2) p _ hp (DqAll.ofInts ms)⟩
/-! all, any, sum -/
def oAll : List D → (D → Prop) → Prop := fun ds Q => ∃ bs : List Bool, ds = [.list (bs.map PyData.bool)] ∧ Q (.bool (bs.all id))
def oAny : List D → (D → Prop) → Prop := fun ds Q => ∃ bs : List Bool, ds = [.list (bs.map PyData.bool)] ∧ Q (.bool (bs.any id))
def oSum : List D → (D → Prop) → Prop := fun ds Q => ∃ ns : List Int, ds = [.list (ns.map PyData.int)] ∧ Q (.int ns.sum)
theorem cp_all : CaP K (rAll K) oAll := by
  rintro G H xs ds Qd Q hs hd ⟨ns, rfl, h⟩ k
  obtain ⟨v, rfl, hv⟩ := hd.one_of
  obtain ⟨a, zs, rfl, g, dz⟩ := hv.list_of
  have e := dz.bools
  subst e
  exact ⟨a, ns, rfl, .inl (.inl (hs _ _ g)), k _ h G H _ (st0 hs) (.bl _)⟩
theorem cp_any : CaP K (rAny K) oAny := by
  rintro G H xs ds Qd Q hs hd ⟨ns, rfl, h⟩ k
  obtain ⟨v, rfl, hv⟩ := hd.one_of
  obtain ⟨a, zs, rfl, g, dz⟩ := hv.list_of
  have e := dz.bools
  subst e
  exact ⟨a, ns, rfl, .inl (.inl (hs _ _ g)), k _ h G H _ (st0 hs) (.bl _)⟩
theorem cp_sum : CaP K (rSum K) oSum := by
  rintro G H xs ds Qd Q hs hd ⟨ns, rfl, h⟩ k
  obtain ⟨v, rfl, hv⟩ := hd.one_of
  obtain ⟨a, zs, rfl, g, dz⟩ := hv.list_of
  have e := dz.ints
  subst e
  exact ⟨a, ns, rfl, .inl (.inl (hs _ _ g)), k _ h G H _ (st0 hs) (.int _)⟩
/-! max, min of two; gcd -/
def oMax2 : List D → (D → Prop) → Prop := fun ds Q => match ds with
  | [.int i, .int j] => Q (.int (max i j))
  | _ => False
def oMin2 : List D → (D → Prop) → Prop := fun ds Q => match ds with
  | [.int i, .int j] => Q (.int (min i j))
  | _ => False
theorem cp_max2 : CaP K (fun xs H Q => ∃ i j, xs = [.int i, .int j] ∧ Q (.int (if j > i then j else i)) H) oMax2 := by
  intro G H xs ds Qd Q hs hd h k
  match ds, h with
  | [.int i, .int j], h =>
    obtain ⟨v, w, rfl, hv, hw⟩ := hd.two_of
    rw [hv.int_of, hw.int_of]
    refine ⟨i, j, rfl, ?_⟩
    have e : (if j > i then j else i) = max i j := by split <;> omega
    rw [e]
    exact k _ h G H _ (st0 hs) (.int _)
theorem cp_min2 : CaP K (fun xs H Q => ∃ i j, xs = [.int i, .int j] ∧ Q (.int (if j < i then j else i)) H) oMin2 := by
  intro G H xs ds Qd Q hs hd h k
  match ds, h with
  | [.int i, .int j], h =>
    obtain ⟨v, w, rfl, hv, hw⟩ := hd.two_of
    rw [hv.int_of, hw.int_of]
    refine ⟨i, j, rfl, ?_⟩
    have e : (if j < i then j else i) = min i j := by split <;> omega
    rw [e]
    exact k _ h G H _ (st0 hs) (.int _)
def oGcd : List D → (D → Prop) → Prop := fun ds Q => match ds with
  | [.int i, .int j] => Q (.int (Nat.gcd i.natAbs j.natAbs : Nat))
  | _ => False
theorem cp_gcd : CaP K rGcd oGcd := by
  intro G H xs ds Qd Q hs hd h k
  match ds, h with
  | [.int i, .int j], h =>
    obtain ⟨v, w, rfl, hv, hw⟩ := hd.two_of
    rw [hv.int_of, hw.int_of]
    exact ⟨i, j, rfl, k _ h G H _ (st0 hs) (.int _)⟩
/-! isinstance -/
def tyN : D → String
  | .none => "NoneType"
  | .bool _ => "bool"
  | .int _ => "int"
  | .str _ => "str"
  | .list _ => "list"
  | .tuple _ => "tuple"
  | .dict _ => "dict"
def isT (T : String) (d : D) : Bool := tyN d == T || (T == "int" && tyN d == "bool")
theorem tyX {G H : Hp} (hs : ∀ a u, G a = some u → H a = some u) {v : V} {d : D} (h : Dq K G v d) : TyX K H v (.type (tyN d)) := by
  cases h with
  | non => exact .base .non
  | bl c => exact .base (.bl c)
  | int i => exact .base (.int i)
  | str x => exact .base (.str x)
  | lst a1 a2 => exact .base (.lst (hs _ _ a1))
  | tup a1 a2 =>
    rcases a1 with (h | ⟨o, h⟩) | ⟨o, its, n, h1, h2, _⟩
    · exact .base (.tup (hs _ _ h))
    · exact .fTuple (hs _ _ h)
    · exact .kTuple h1 h2
def KitT (T : String) : Prop := ∀ t ∈ ["NoneType", "bool", "int", "str", "list", "tuple"], kitB t T = some (t == T || (T == "int" && t == "bool"))
theorem kit_int : KitT "int" := by unfold KitT; decide +kernel
theorem kit_bool : KitT "bool" := by unfold KitT; decide +kernel
theorem kit_str : KitT "str" := by unfold KitT; decide +kernel
theorem kit_list : KitT "list" := by unfold KitT; decide +kernel
theorem kit_tuple : KitT "tuple" := by unfold KitT; decide +kernel
def pIsi (T : String) (p : VT) : VT := fun n e Q => p n e fun n1 d => Q n1 (.bool (isT T d))
theorem pv_isi {T : String} {a : Expr} {pa : VT} {p p2 pos : Pos} (hk : KitT T) (h1 : X.mg "isinstance" = none) (h2 : X.mg (Str.ofString T) = none) (hv : bootBuiltins (Str.ofString T) = some (.type T)) (ha : PV b X a pa)
    (hg : Gl X "isinstance" := by rfl) (hg2 : Gl X (Str.ofString T) := by rfl) (hb : bootBuiltins "isinstance" = some (.builtin "isinstance") := by decide +kernel) (hn : (Str.ofString T) ≠ "__name__" := by decide) (hdb : ((Str.ofString T) == ("__debug__" : Str)) = false := by decide)
    (he : starEach [a, .Name (Str.ofString T) p2] X.env = (false, eval a X.env) :: starEach [.Name (Str.ofString T) p2] X.env := by rfl) (he2 : starEach [.Name (Str.ofString T) p2] X.env = (false, eval (.Name (Str.ofString T) p2) X.env) :: starEach [] X.env := by rfl)
    (hpl : (backTo pos (starEach [.Name (Str.ofString T) p2] X.env)).any (·.1) = false := by rfl) :
    PV b X (.Call (.Name "isinstance" p) [a, .Name (Str.ofString T) p2] [] pos) (pIsi T pa) := by
  have hr : RelV (.ty T) (.type T) := rfl
  refine ⟨weakE (pe_callB (call_isi) hg h1 hb (pa_cons ha.pe (pa_cons (pe_bltn (v := .ty T) hg2 h2 hv hr hn hdb) pa_nil he2) he) (by decide) (by decide) he hpl) ?_⟩
  rintro σ H Q ⟨F, e, n, Qp, R, h, k⟩
  refine liftV_of R h fun n1 d h1 F1 H1 v R1 s1 q1 => ?_
  refine ⟨v, .ty T, .type (tyN d), .type T, isT T d, rfl, .ty T, tyX R1.plusH q1, ?_, k n1 _ h1 F1 H1 _ s1 (.bl _)⟩
  refine kit_ty (hk _ ?_)
  cases q1 <;> simp [tyN]
end
end PL

set_option Elab.async false
set_option linter.all false
set_option maxRecDepth 100000
set_option maxHeartbeats 4000000
/-! ## repr; sum of lists -/
namespace PySem
namespace SumL
open PySem PySem.W PyProof.Rows
section
variable {prog : Program} {w : World} {A : Around} {R : Result → Shared → Prop} {I : Addr} {fp wr : List Addr} {n : Nat} {P : Nat → Value → Prop} {St : Nat → Heap → Prop}
/-- the list object of these -/
def lo (xs : List Value) (c : Nat) : Obj := { cls := .type "list", data := .seq xs.toArray c }
def cat (zs : Nat → List Value) : Nat → List Value
  | 0 => []
  | i + 1 => cat zs i ++ zs i
theorem cat_le (zs : Nat → List Value) {i n : Nat} (h : i ≤ n) : (cat zs i).length ≤ (cat zs n).length := by
  induction n with
  | zero =>
    have e : i = 0 := by omega
    subst e
    exact Nat.le_refl _
  | succ n ih =>
    by_cases e : i = n + 1
    · subst e
      exact Nat.le_refl _
    · have := ih (by omega)
      show _ ≤ (cat zs n ++ zs n).length
      rw [List.length_append]
      omega
theorem loop (W : Walks prog w A.in1 I fp wr n P St) (zs : Nat → List Value) (hz : (cat zs n).length ≤ sizeLine) (S : Addr) (hSf : S ∉ fp) (h0 : Heap)
    (hval : ∀ i v, P i v → ∃ a m, v = .ref a ∧ h0.get? a = some (lo (zs i) m)) (hwr : ∀ b ∈ wr, h0.get? b = none) (hin : ∀ i h, St i h → h0.objs.size ≤ h.objs.size ∧ ∀ b ∈ wr, ∃ o, h.get? b = some o) (hS0 : h0.get? S = none) :
    ∀ (k i : Nat) (s : Shared) (t : Addr) (m c : Nat) (stage : Int), stage = 2 → n - i = k → i ≤ n → St i s.heap → (∀ b o, h0.get? b = some o → s.heap.get? b = some o) → s.heap.get? S = some { cls := .type "list", dict := none, data := .seq #[.ref t] c, slots := #[] } →
    s.heap.get? t = some (lo (cat zs i) m) → t ∉ wr → t ≠ S →
    (∀ h' tk t' m', (∀ b o, b ∉ wr → b ≠ S → s.heap.get? b = some o → h'.get? b = some o) → h'.get? t' = some (lo (cat zs n) m') → (t' = t ∨ h0.objs.size ≤ t') → R (.ok (.ret (.ref t'))) { s with heap := h', toks := tk }) →
    codeAny (model prog w) A (.builtin "sum.loop" ⟨[.ref I, .ref S, rawInt stage, rawInt 0], []⟩) R s := by
  have hSw : S ∉ wr := fun h => hSf (W.sub _ h)
  intro k
  induction k with
  | zero =>
    intro i s t m c stage hstage hk hi hst hh hS ht htw htS hR
    have hin : i = n := by omega
    subst hin
    subst hstage
    refine codeAny_builtin F.entry_sum_loop ?_
    rw [Around.under_plainId F.plain_sum_loop _]
    show wpAny _ A.in1 (seqItems? (.ref S) >>= _) _ _ s
    refine wpAny_bind (wpAny_seqItems hS rfl ?_)
    show wpAny _ A.in1 (tryCatch (pyNext (.ref I)) _ >>= _) _ _ s
    refine wpAny_bind (wpAny_tryCatch (W.done s _ _ hst fun h' tk hk' => ?_))
    exact wpAny_pure (hR h' tk t m (fun b o hbw _ e => hk' b o hbw e) (hk' t _ htw ht) (.inl rfl))
  | succ k ih =>
    intro i s t m c stage hstage hk hi hst hh hS ht htw htS hR
    have hlt : i < n := by omega
    subst hstage
    refine codeAny_builtin F.entry_sum_loop ?_
    rw [Around.under_plainId F.plain_sum_loop _]
    show wpAny _ A.in1 (seqItems? (.ref S) >>= _) _ _ s
    refine wpAny_bind (wpAny_seqItems hS rfl ?_)
    show wpAny _ A.in1 (tryCatch (pyNext (.ref I)) _ >>= _) _ _ s
    refine wpAny_bind (wpAny_tryCatch (W.item i s _ _ hlt hst fun v h' tk hP hst' hk' => ?_))
    obtain ⟨a, ma, rfl, ha0⟩ := hval i v hP
    have hS' := hk' S _ hSw hS
    have haw : a ∉ wr := fun z => by rw [hwr a z] at ha0; cases ha0
    have haS : a ≠ S := fun z => by rw [z, hS0] at ha0; cases ha0
    have ha := hk' a _ haw (hh a _ ha0)
    have ht' := hk' t _ htw ht
    have len : (cat zs (i + 1)).length ≤ sizeLine := Nat.le_trans (cat_le zs hlt) hz
    show wpAny _ A.in1 ((holding [Value.ref a] (binaryOp .Add (.ref t) (.ref a))).attempt >>= _) _ _ _
    refine wpAny_bind (wpAny_attempt (wpAny_holding (PySem.P.add_list ht' ha ?_ (by
      have e : cat zs (i + 1) = cat zs i ++ zs i := rfl
      rw [e, List.length_append] at len
      rw [List.size_toArray, List.size_toArray]; exact len))))
    have ec : (cat zs i).toArray ++ (zs i).toArray = (cat zs (i + 1)).toArray := by
      show _ = (cat zs i ++ zs i).toArray
      simp
    rw [ec]
    have sS : S < h'.objs.size := Heap.lt_size hS'
    have hS1 : (h'.push (lo (cat zs (i + 1)) 0)).get? S = some { cls := .type "list", dict := none, data := .seq #[.ref t] c, slots := #[] } := Heap.get?_push_of_some _ hS'
    show wpAny _ A.in1 (updateSeq S (fun _ => #[.ref h'.objs.size]) >>= _) _ _ _
    refine wpAny_bind ?_
    refine wpAny_updateSeq hS1 rfl ?_
    have hS2 := Heap.get?_update_self (Obj.mapSeq fun _ => #[Value.ref h'.objs.size]) hS1 rfl
    refine wpAny_bind (wpAny_letGo ?_)
    refine wpAny_bind ?_
    have old : ∀ b o, b ≠ S → h'.get? b = some o → (((h'.push (lo (cat zs (i + 1)) 0)).update S (Obj.mapSeq fun _ => #[Value.ref h'.objs.size])).update S (Obj.mapSeq fun _ => #[Value.ref h'.objs.size])).get? b = some o := fun b o hb e =>
      (Heap.get?_update_other _ _ (Ne.symm hb)).trans ((Heap.get?_update_other _ _ (Ne.symm hb)).trans (Heap.get?_push_of_some _ e))
    have tn : h'.objs.size ≠ S := fun z => by rw [z] at sS; exact Nat.lt_irrefl _ sS
    have nw : h'.objs.size ∉ wr := fun z => by
      obtain ⟨o, e⟩ := (hin _ _ hst').2 _ z
      exact Nat.lt_irrefl _ (Heap.lt_size e)
    have h00 : ∀ b o, h0.get? b = some o → h'.get? b = some o := fun b o e => hk' b o (fun z => by rw [hwr b z] at e; cases e) (hh b o e)
    have nz : h0.objs.size ≤ h'.objs.size := (hin _ _ hst').1
    refine wpAny_updateSeq hS2 rfl (wpAny_pure ⟨plainId_quiet F.plain_sum_loop _, ih (i + 1) _ h'.objs.size 0 _ 2 rfl (by omega) hlt (W.frame _ _ _ hst' fun b hb o e => ?_) (fun b o e => ?_) (Heap.get?_update_self _ hS2 rfl) ?_ ?_ tn fun h'' tk'' t'' m'' hk'' ht2 hn => ?_⟩)
    · exact old b o (fun h : b = S => hSf (by rw [← h]; exact hb)) e
    · exact old b o (fun z => by rw [z, hS0] at e; cases e) (h00 b o e)
    · exact (Heap.get?_update_other _ _ (Ne.symm tn)).trans ((Heap.get?_update_other _ _ (Ne.symm tn)).trans (Heap.get?_push_size _ rfl))
    · exact nw
    · refine hR h'' tk'' t'' m'' (fun b o hbw hbS e => hk'' b o hbw hbS (old b o hbS (hk' b o hbw e))) ht2 (.inr ?_)
      rcases hn with z | z
      · rw [z]; exact nz
      · exact z
end
section
variable {prog : Program} {w : World} {A : Around} {E : Value → Shared → Prop} {s : Shared}
theorem args2 (a c : Value) : argsOk "sum" ⟨[a, c], []⟩ := by unfold argsOk; kernel_rfl
theorem typeIs_list {s : Shared} {a : Addr} {xs : List Value} {c : Nat} (h : s.heap.get? a = some (lo xs c)) : s.TypeIs (.ref a) "list" := ⟨_, h, rfl⟩
theorem sub_bytes : isSubtype (.type "list") (.type "bytes") = pure false := by rw [isSubtype_type]; kernel_rfl
theorem sub_bytearray : isSubtype (.type "list") (.type "bytearray") = pure false := by rw [isSubtype_type]; kernel_rfl
/-- sum(xs, ys): lists, one behind the other, behind ys -/
theorem call_sum {l y : Addr} {its : Array Value} {Q : Value → Shared → Prop} (hh : A.handled = none) (hl : s.heap.IsList l its) {ys : List Value} {cy : Nat} (hy : s.heap.get? y = some (lo ys cy)) (zs : Nat → List Value) (hval : ∀ i v, its[i]? = some v → ∃ a m, v = .ref a ∧ s.heap.get? a = some (lo (zs i) m))
    (hy0 : ys = []) (hz : (cat zs its.size).length ≤ sizeLine)
    (hQ : ∀ h' tk t' m', (∀ b o, s.heap.get? b = some o → h'.get? b = some o) → h'.get? t' = some (lo (cat zs its.size) m') → (t' = y ∨ s.heap.objs.size ≤ t') → Q (.ref t') { s with heap := h', toks := tk }) :
    wpAny (model prog w) A (call (.builtin "sum") [.ref l, .ref y]) Q E s := by
  subst hy0
  refine call_function_tree F.kind_sum F.plain_sum F.entry_sum (args2 _ _) ?_
  unfold Builtin.«sum»
  simp only [List.length_cons, List.length_nil]
  rw [if_neg (by decide)]
  refine wpAny_bind (wpAny_of_eq (show Builtin.Builtins.bindParams "sum" ["start"] 0 ⟨[.ref y], []⟩ = pure [some (.ref y)] from rfl) ?_)
  refine wpAny_bind (L2.iter_any hl fun s₂ e2 st hne => ?_)
  subst e2
  refine wpAny_bind (wpAny_pure ?_)
  have hy2 : (s.heap.push { cls := .type "list_iterator", data := .fields #[.ref l, .int 0 0] }).get? y = some (lo [] cy) := Heap.get?_push_of_some _ hy
  simp only [List.forIn_cons, List.forIn_nil]
  refine wpAny_bind (wpAny_bind (wpAny_bind (wpAny_isInstance (T := "list") (b := false) (typeIs_list hy2) F.sub_list_str ?_)))
  simp only [Bool.false_eq_true, if_false]
  refine wpAny_pure (wpAny_bind (wpAny_bind (wpAny_isInstance (T := "list") (b := false) (typeIs_list hy2) sub_bytes ?_)))
  simp only [Bool.false_eq_true, if_false]
  refine wpAny_pure (wpAny_bind (wpAny_bind (wpAny_isInstance (T := "list") (b := false) (typeIs_list hy2) sub_bytearray ?_)))
  simp only [Bool.false_eq_true, if_false]
  refine wpAny_pure (wpAny_pure ?_)
  refine wpAny_bind (wpAny_newObj_type ?_)
  have W := Walks.list (prog := prog) (w := w) (A := A.in1) hh s.heap.objs.size l hne its
  have e1 : (s.heap.push { cls := .type "list_iterator", data := .fields #[.ref l, .int 0 0] }).objs.size = s.heap.objs.size + 1 := by rw [Heap.size_push]
  have none_at : ∀ b, s.heap.objs.size ≤ b → s.heap.get? b = none := fun b hb => by
    cases e : s.heap.get? b with
    | none => rfl
    | some o => exact absurd (Nat.lt_of_lt_of_le (Heap.lt_size e) hb) (Nat.lt_irrefl _)
  have old : ∀ b o, s.heap.get? b = some o → ((s.heap.push { cls := .type "list_iterator", data := .fields #[.ref l, .int 0 0] }).push { cls := .type "list", dict := none, data := .seq #[.ref y] 0, slots := #[] }).get? b = some o := fun b o e => Heap.get?_push_of_some _ (Heap.get?_push_of_some _ e)
  have lt1 : l < s.heap.objs.size := by obtain ⟨_, e, _⟩ := hl; exact Heap.lt_size e
  generalize hg : s.heap.push { cls := .type "list_iterator", data := .fields #[.ref l, .int 0 0] } = g at *
  have hg2 : ∀ b o, s.heap.get? b = some o → g.get? b = some o := fun b o e => by rw [← hg]; exact Heap.get?_push_of_some _ e
  refine wpAny_pure ⟨plainId_quiet F.plain_sum_loop _, loop (W := W) zs hz g.objs.size ?_ s.heap hval (fun b hb => ?_) (fun i h st => ?_) (none_at _ (by rw [e1]; exact Nat.le_succ _)) its.size 0 { s with heap := g.push { cls := .type "list", dict := none, data := .seq #[.ref y] 0, slots := #[] } } y cy 0 2 rfl rfl (Nat.zero_le _)
    (W.frame _ _ _ st fun b _ o e => Heap.get?_push_of_some _ e) old (Heap.get?_push_size _ rfl) (old _ _ hy) ?_ ?_ fun h' tk t' m' hk ht hn => ?_⟩
  · intro hm
    have l1 : s.heap.objs.size < g.objs.size := by rw [e1]; exact Nat.lt_succ_self _
    rcases List.mem_cons.mp hm with z | hm
    · exact Nat.ne_of_gt l1 z
    · rcases List.mem_cons.mp hm with z | hm
      · exact Nat.ne_of_gt (Nat.lt_trans lt1 l1) z
      · cases hm
  · have hb' : b = s.heap.objs.size := by simpa using hb
    subst hb'
    exact none_at _ (Nat.le_refl _)
  · obtain ⟨⟨o, e, _⟩, _⟩ := st
    refine ⟨Nat.le_of_lt (Heap.lt_size e), fun b hb => ?_⟩
    have hb' : b = s.heap.objs.size := by simpa using hb
    subst hb'
    exact ⟨o, e⟩
  · intro hm
    have z : y = s.heap.objs.size := by simpa using hm
    exact Nat.ne_of_lt (Heap.lt_size hy) z
  · intro z
    have l1 : s.heap.objs.size < g.objs.size := by rw [e1]; exact Nat.lt_succ_self _
    exact Nat.ne_of_lt (Nat.lt_trans (Heap.lt_size hy) l1) z
  · refine hQ h' tk t' m' (fun b o e => hk b o ?_ ?_ (old b o e)) ht hn
    · intro hm
      have z : b = s.heap.objs.size := by simpa using hm
      exact Nat.ne_of_lt (Heap.lt_size e) z
    · intro z
      have l1 : s.heap.objs.size < g.objs.size := by rw [e1]; exact Nat.lt_succ_self _
      exact Nat.ne_of_lt (Nat.lt_trans (Heap.lt_size e) l1) z
end
end SumL
end PySem

namespace PL
open PySem PySem.Spec PyProof.Rows L2
open Classical
section
variable {X : Cx} {b : Bs} {K : PySem.W.Frag}
def flatAt (zss : List (List Value)) : Nat → List Value := fun i => zss.getD i []
theorem cat_take (zss : List (List Value)) : ∀ i, i ≤ zss.length → SumL.cat (flatAt zss) i = (zss.take i).flatten
  | 0, _ => rfl
  | i + 1, h => by
    show SumL.cat (flatAt zss) i ++ flatAt zss i = _
    have lt : i < zss.length := by omega
    rw [cat_take zss i (by omega), List.take_add_one, List.getElem?_eq_getElem lt]
    unfold flatAt
    rw [List.getD_eq_getElem?_getD, List.getElem?_eq_getElem lt]
    rw [List.flatten_append]
    show _ = (List.take i zss).flatten ++ (zss[i] ++ [])
    rw [List.append_nil]
    rfl
theorem Vals.flatten : ∀ {yss : List (List V)} {zss : List (List Value)}, Paired Vals yss zss → Vals yss.flatten zss.flatten
  | _, _, .nil => .nil
  | _, _, .cons h t => by
    rw [List.flatten_cons, List.flatten_cons]
    exact h.append (Vals.flatten t)
/-- sum(xs, []), of lists -/
def rSumL : List V → Hp → VK → Prop := fun vs H Q => ∃ (a y : Addr) (xs : List V) (yss : List (List V)), vs = [.ref a, .ref y] ∧ H a = some (.lst xs) ∧ H y = some (.lst []) ∧ Paired (fun v ys => ∃ c, v = V.ref c ∧ H c = some (.lst ys)) xs yss ∧
  yss.flatten.length ≤ sizeLine ∧ (∀ p, H p = none → Q (.ref p) (upd H p (.lst yss.flatten))) ∧ (yss.flatten = [] → Q (.ref y) H)
theorem lists_at {pins : List (Addr × Obj)} {σ : L2.St} {H : Hp} {s : Shared} (I : Inv X pins σ H s) : ∀ {xs : List V} {yss : List (List V)} {its : List Value}, Paired (fun v ys => ∃ c, v = V.ref c ∧ H c = some (.lst ys)) xs yss → Vals xs its →
    ∃ zss : List (List Value), Paired Vals yss zss ∧ zss.length = its.length ∧ ∀ i v, its[i]? = some v → ∃ a m, v = .ref a ∧ s.heap.get? a = some (SumL.lo (zss.getD i []) m)
  | _, _, _, .nil, .nil => ⟨[], .nil, rfl, fun i v h => by simp at h⟩
  | _, _, _, .cons ⟨c, e, h⟩ t, .cons r rt => by
    obtain ⟨zss, h1, h2, h3⟩ := lists_at I t rt
    subst e
    cases r
    obtain ⟨_, zs, m, rv, _, g⟩ := I.lstM h
    refine ⟨zs :: zss, .cons rv h1, by simp [h2], fun i v q => ?_⟩
    cases i with
    | zero =>
      have q' : Value.ref c = v := by simpa using q
      subst q'
      exact ⟨c, m, rfl, g⟩
    | succ i => exact h3 i v (by simpa using q)
theorem cr_sumL (hc : X.calm = true) : CallR X (.builtin "sum") rSumL := by
  intro pins s σ H vs us Q I r h
  obtain ⟨a, y, xs, yss, rfl, ha, hy, hp, hz, q1, q2⟩ := h
  obtain ⟨u1, u2, rfl, r1, r2⟩ := vals2 r
  cases r1
  cases r2
  obtain ⟨_, its, m, rv, _, ga⟩ := I.lstM ha
  obtain ⟨_, ys, my, ry, _, gy⟩ := I.lstM hy
  have ey : ys = [] := by cases ry; rfl
  subst ey
  obtain ⟨zss, h1, h2, h3⟩ := lists_at I hp rv
  have fl := Vals.flatten h1
  have ec : SumL.cat (flatAt zss) its.toArray.size = zss.flatten := by
    rw [List.size_toArray, ← h2, cat_take zss _ (Nat.le_refl _), List.take_length]
  refine SumL.call_sum (I.ok.hd hc) (its := its.toArray) ⟨_, ga, rfl, _, rfl⟩ gy (flatAt zss) (fun i v e => ?_) rfl ?_ fun h' tk t' m' hk ht hn => ?_
  · exact h3 i v (by simpa using e)
  · rw [ec, ← fl.length]; exact hz
  · rw [ec] at ht
    rcases hn with z | z
    · subst z
      have e0 := hk _ _ gy
      have e1 := e0.symm.trans ht
      have e2 : zss.flatten = [] := by
        have e3 : SumL.lo [] my = SumL.lo zss.flatten m' := Option.some.inj e1
        unfold SumL.lo at e3
        injection e3 with _ _ e3
        injection e3 with e3 _
        have e4 := congrArg Array.toList e3
        simpa using e4.symm
      have e3 : yss.flatten = [] := by
        have l := fl.length
        rw [e2] at l
        exact List.length_eq_zero_iff.mp l
      exact ⟨.ref _, H, I.kept hk, rfl, q2 e3⟩
    · have hsz := z
      exact ⟨.ref t', upd H t' (.lst yss.flatten), I.laid hk hsz ⟨hz, _, _, fl, ht⟩, rfl, q1 t' (I.hok.fresh hsz)⟩
def oSumL : List D → (D → Prop) → Prop := fun ds Q => ∃ lss : List (List D), ds = [.list (lss.map PyData.list), .list []] ∧ lss.flatten.length ≤ sizeLine ∧ Q (.list lss.flatten)
theorem DqAll.lists {G H : Hp} (hs : ∀ a u, G a = some u → H a = some u) : ∀ {xs : List V} {lss : List (List D)}, DqAll K G xs (lss.map PyData.list) → ∃ yss : List (List V), Paired (fun v ys => ∃ c, v = V.ref c ∧ H c = some (.lst ys)) xs yss ∧ DqAll K G yss.flatten lss.flatten
  | _, [], h => by cases h; exact ⟨[], .nil, .nil⟩
  | _, l :: lss, h => by
    cases h with
    | cons h t =>
      obtain ⟨a, ys, rfl, g, dz⟩ := h.list_of
      obtain ⟨yss, h1, h2⟩ := DqAll.lists hs t
      refine ⟨ys :: yss, .cons ⟨a, rfl, hs _ _ g⟩ h1, ?_⟩
      rw [List.flatten_cons, List.flatten_cons]
      exact dz.append h2
theorem cp_sumL : CaP K rSumL oSumL := by
  rintro G H xs ds Qd Q hs hd ⟨lss, rfl, hz, h⟩ k
  obtain ⟨v, w, rfl, hv, hw⟩ := hd.two_of
  obtain ⟨a, zs, rfl, g, dz⟩ := hv.list_of
  obtain ⟨y, ys, rfl, gy, dy⟩ := hw.list_of
  cases dy
  obtain ⟨yss, h1, h2⟩ := DqAll.lists hs dz
  refine ⟨a, y, zs, yss, rfl, hs _ _ g, hs _ _ gy, h1, by rw [h2.length]; exact hz, fun p hp => ?_, fun z => ?_⟩
  · exact k _ h _ _ _ (stNew hs hp) (.lst upd_same (DqAll.mono (stNew hs hp).fz h2))
  · have e : lss.flatten = [] := by
      have l := h2.length
      rw [z] at l
      exact List.length_eq_zero_iff.mp l.symm
    rw [e] at h
    exact k _ h G H _ (st0 hs) (.lst gy .nil)
/-! repr -/
def oRepr : List D → (D → Prop) → Prop := fun ds Q => match ds with
  | [d] => d.showable = true ∧ d.depth ≤ 50 ∧ d.shown.length ≤ sizeLine ∧ Q (.str d.shown)
  | _ => False
def rRepr (K : PySem.W.Frag) : List V → Hp → VK → Prop := fun vs H Q => ∃ v d, vs = [v] ∧ Dp K H v d ∧ d.showable = true ∧ d.depth ≤ 50 ∧ d.shown.length ≤ sizeLine ∧ Q (.str d.shown) H
mutual
theorem noDict {H : Hp} : ∀ {v : V} {d : D}, Dp K H v d → d.hasDict = false
  | _, _, .non => by simp [PyData.hasDict]
  | _, _, .bl _ => by simp [PyData.hasDict]
  | _, _, .int _ => by simp [PyData.hasDict]
  | _, _, .str _ => by simp [PyData.hasDict]
  | _, _, .lst _ h => by simpa [PyData.hasDict] using noDicts h
  | _, _, .tup _ h => by simpa [PyData.hasDict] using noDicts h
theorem noDicts {H : Hp} : ∀ {v : List V} {d : List D}, DpAll K H v d → PyData.hasDictAll d = false
  | _, _, .nil => by simp [PyData.hasDictAll]
  | _, _, .cons h t => by simp [PyData.hasDictAll, noDict h, noDicts t]
end
theorem cr_repr {k : Nat} (hr : Room k X.A) (hg : X.A.guards = some []) : CallR X (.builtin "repr") (rRepr X.K) := by
  intro pins s σ H vs us Q I r h
  obtain ⟨v, d, rfl, hd, h1, h2, h3, q⟩ := h
  obtain ⟨u, rfl, ru⟩ := vals1 r
  have un := hr.units
  have nd := noDict hd
  have fin : ∀ t, RelV (.str d.shown) (.str d.shown t) := fun t => ⟨t, rfl⟩
  cases hd with
  | non => cases ru; exact PySem.P.repr_of_none ⟨_, H, I.tok _, fin _, q⟩
  | bl c => cases ru; exact PySem.P.repr_of_bool ⟨_, H, I.tok _, fin _, q⟩
  | int i => obtain ⟨t, rfl⟩ := ru; exact PySem.P.repr_of_int (by simpa [PyData.showable] using h1) ⟨_, H, I.tok _, fin _, q⟩
  | str x => obtain ⟨t, rfl⟩ := ru; exact PySem.P.repr_of_str ⟨_, H, I.tok _, fin _, q⟩ h3
  | lst a1 a2 =>
    cases ru
    obtain ⟨as, rd⟩ := Dp.reads I _ _ _ (.lst a1 a2) rfl
    exact PySem.repr_of_reads' rd h1 (fun z => by rw [nd] at z; cases z) hg (by omega) (fun _ _ e => e) (fun h' u tk hk => ⟨_, H, I.kept hk, fin _, q⟩) h3
  | tup a1 a2 =>
    cases ru
    obtain ⟨as, rd⟩ := Dp.reads I _ _ _ (.tup a1 a2) rfl
    exact PySem.repr_of_reads' rd h1 (fun z => by rw [nd] at z; cases z) hg (by omega) (fun _ _ e => e) (fun h' u tk hk => ⟨_, H, I.kept hk, fin _, q⟩) h3
theorem cp_repr : CaP K (rRepr K) oRepr := by
  intro G H xs ds Qd Q hs hd h k
  match ds, h with
  | [d], ⟨h1, h2, h3, h⟩ =>
    obtain ⟨v, rfl, hv⟩ := hd.one_of
    exact ⟨v, d, rfl, hv.toDp hs, h1, h2, h3, k _ h G H _ (st0 hs) (.str _)⟩
end
end PL

set_option Elab.async false
set_option linter.all false
set_option maxRecDepth 100000
set_option maxHeartbeats 4000000
/-! ## Results, targets, statements -/
namespace PL
open PySem PySem.Spec PyProof.Rows L2
open Classical

/-! ### results: a value, or a new list -/
abbrev RT := Nat → En → (Nat → Rv → Prop) → Prop
def RvP (K : PySem.W.Frag) (b : Bs) (F H F' H' : Hp) (σ : L2.St) (e : En) (v : V) : Rv → Prop
  | .val d => Dq K (plus F' H' σ e) v d
  | .own ds => ∃ a xs, v = .ref a ∧ F' a = none ∧ H a = none ∧ H' a = some (.lst xs) ∧ DqAll K (plus F' H' σ e) xs ds
def liftR (K : PySem.W.Frag) (b : Bs) (p : RT) : TE := fun σ H Q => ∃ F e n Qp, Rel K b F H σ e n ∧ p n e Qp ∧ ∀ n' r, Qp n' r → ∀ F' H' v, Stp b.pt n' F H F' H' → RvP K b F H F' H' σ e v r → Q v H'
structure PR (b : Bs) (X : Cx) (ex : Expr) (p : RT) : Prop where
  pe : PE X ex (liftR X.K b p)
def lfr : Rv → Bool
  | .val d => lf d
  | .own ds => lfs ds
def Rv.sl : Rv → Sl
  | .val d => .val d
  | .own ds => .own ds
/-- the slots that go on: own lists become values where what is laid holds lists itself -/
def keepR (e : En) (r : Rv) : En := if lfr r = true then e else frz e
def rV (p : VT) : RT := fun n e Q => p n e fun n1 d => Q n1 (.val d)
def rO (p : OT) : RT := fun n e Q => p n e fun n1 d => Q n1 (.own d)
section
variable {X : Cx} {b : Bs}
theorem pr_val {ex : Expr} {p : VT} (h : PV b X ex p) : PR b X ex (rV p) := by
  refine ⟨weakE h.pe ?_⟩
  rintro σ H Q ⟨F, e, n, Qp, R, h, k⟩
  exact liftV_of R h fun n1 d h1 F1 H1 v R1 s1 q1 => k n1 _ h1 F1 H1 v s1 q1
theorem pr_own {ex : Expr} {p : OT} (h : PO b X ex p) : PR b X ex (rO p) := by
  refine ⟨weakE h.pe ?_⟩
  rintro σ H Q ⟨F, e, n, Qp, R, h, k⟩
  exact ⟨F, e, n, _, R, h, fun n1 ds h1 F1 H1 a xs s1 f1 f0 ha hd => k n1 _ h1 F1 H1 _ s1 ⟨a, xs, rfl, f1, f0, ha, hd⟩⟩
end
/-! ### slots are set -/
section
variable {K : PySem.W.Frag} {b : Bs} {F H F' H' : Hp} {σ : L2.St} {e : En} {n n' : Nat}
theorem get_set {α : Type} {l : List α} {i j : Nat} {a : α} {x : α} (h : (l.set i a)[j]? = some x) : (i = j ∧ x = a ∧ i < l.length) ∨ (i ≠ j ∧ l[j]? = some x) := by
  by_cases e : i = j
  · subst e
    by_cases lt : i < l.length
    · rw [List.getElem?_set_self lt] at h
      exact .inl ⟨rfl, (Option.some.inj h).symm, lt⟩
    · rw [List.getElem?_eq_none (by rw [List.length_set]; omega)] at h
      cases h
  · rw [List.getElem?_set_ne e] at h
    exact .inr ⟨e, h⟩
/-- a value is stored -/
theorem Rel.setVal (R : Rel K b F H σ e n) {i : Nat} {v : V} {d : D} (h : Dq K F v d) : Rel K b F H (σ.set i (some v)) (e.set i (.val d)) n where
  len := by rw [List.length_set, List.length_set]; exact R.len
  base := R.base
  slot := fun j s q => by
    rcases get_set q with ⟨rfl, rfl, lt⟩ | ⟨ne, q⟩
    · exact ⟨some v, List.getElem?_set_self (by rw [R.len]; exact lt), h⟩
    · obtain ⟨w, h1, h2⟩ := R.slot j s q
      exact ⟨w, by rw [List.getElem?_set_ne ne]; exact h1, h2⟩
  sep := fun j k ds ds' a h1 h2 h3 h4 => by
    rcases get_set h1 with ⟨_, z, _⟩ | ⟨n1, h1⟩
    · cases z
    · rcases get_set h2 with ⟨_, z, _⟩ | ⟨n2, h2⟩
      · cases z
      · rw [List.getElem?_set_ne n1] at h3
        rw [List.getElem?_set_ne n2] at h4
        exact R.sep j k ds ds' a h1 h2 h3 h4
/-- a new list is stored as the slot's own -/
theorem Rel.setOwn (R : Rel K b F H σ e n) {i : Nat} {a : Addr} {xs : List V} {ds : List D} (f : F a = none) (h0 : b.H0 a = none) (hp : b.pt ≠ some a) (ha : H a = some (.lst xs)) (hd : DqAll K F xs ds) (nm : ¬ Mine σ e a) : Rel K b F H (σ.set i (some (.ref a))) (e.set i (.own ds)) n where
  len := by rw [List.length_set, List.length_set]; exact R.len
  base := R.base
  slot := fun j s q => by
    rcases get_set q with ⟨rfl, rfl, lt⟩ | ⟨ne, q⟩
    · exact ⟨some (.ref a), List.getElem?_set_self (by rw [R.len]; exact lt), a, xs, rfl, f, h0, hp, ha, hd⟩
    · obtain ⟨w, h1, h2⟩ := R.slot j s q
      exact ⟨w, by rw [List.getElem?_set_ne ne]; exact h1, h2⟩
  sep := fun j k ds1 ds2 c h1 h2 h3 h4 => by
    rcases get_set h1 with ⟨z1, _, l1⟩ | ⟨n1, h1⟩
    · rcases get_set h2 with ⟨z2, _, _⟩ | ⟨n2, h2⟩
      · exact z1.symm.trans z2
      · exfalso
        subst z1
        rw [List.getElem?_set_self (by rw [R.len]; exact l1)] at h3
        rw [List.getElem?_set_ne n2] at h4
        cases h3
        exact nm ⟨k, ds2, h2, h4⟩
    · rcases get_set h2 with ⟨z2, _, l2⟩ | ⟨n2, h2⟩
      · exfalso
        subst z2
        rw [List.getElem?_set_self (by rw [R.len]; exact l2)] at h4
        rw [List.getElem?_set_ne n1] at h3
        cases h4
        exact nm ⟨j, ds1, h1, h3⟩
      · rw [List.getElem?_set_ne n1] at h3
        rw [List.getElem?_set_ne n2] at h4
        exact R.sep j k ds1 ds2 c h1 h2 h3 h4
/-- what is new is not the frame's own yet -/
theorem Rel.notMine (R : Rel K b F H σ e n) {a : Addr} (h : H a = none) : ¬ Mine σ e a := fun m => by
  obtain ⟨_, _, _, _, _, _, _, _, q, _⟩ := R.mine m
  rw [h] at q; cases q
theorem Rel.newH0 (R : Rel K b F H σ e n) {a : Addr} (h : H a = none) : b.H0 a = none ∧ b.pt ≠ some a := by
  have np : b.pt ≠ some a := fun z => by
    obtain ⟨_, x, y, w, q, _⟩ := R.pot a z
    rw [h] at q; cases q
  refine ⟨?_, np⟩
  cases q : b.H0 a with
  | none => rfl
  | some o => rw [R.base.keep a o np q] at h; cases h
end
theorem frz_no : ∀ (e : En), noOwn (frz e) = true
  | [] => rfl
  | s :: e => by
    have ih := frz_no e
    unfold frz at ih ⊢
    cases s <;> simp_all [noOwn, frz1]
/-- a result as it stands ahead of the store, over the frozen part alone -/
def RvQ (K : PySem.W.Frag) (b : Bs) (F H : Hp) (σ : L2.St) (e : En) (v : V) : Rv → Prop
  | .val d => Dq K F v d
  | .own ds => ∃ a xs, v = .ref a ∧ F a = none ∧ b.H0 a = none ∧ b.pt ≠ some a ∧ H a = some (.lst xs) ∧ DqAll K F xs ds ∧ ¬ Mine σ e a
section
variable {K : PySem.W.Frag} {b : Bs} {F H F' H' F2 H2 : Hp} {σ : L2.St} {e : En} {n n' n2 : Nat}
theorem Rel.setR (R : Rel K b F H σ e n) {i : Nat} {v : V} {r : Rv} (h : RvQ K b F H σ e v r) : Rel K b F H (σ.set i (some v)) (e.set i r.sl) n := by
  cases r with
  | val d => exact R.setVal h
  | own ds =>
    obtain ⟨a, xs, rfl, f1, h0, hp, ha, hd, nm⟩ := h
    exact R.setOwn f1 h0 hp ha hd nm
theorem Mine.of_set {i : Nat} {v : V} {s : Sl} {a : Addr} (m : Mine (σ.set i (some v)) (e.set i s) a) : Mine σ e a ∨ (v = .ref a ∧ ∃ ds, s = .own ds) := by
  obtain ⟨j, ds, h1, h2⟩ := m
  rcases get_set h1 with ⟨z, zs, _⟩ | ⟨ne, h1⟩
  · subst z
    rcases get_set h2 with ⟨_, z, _⟩ | ⟨ne, _⟩
    · exact .inr ⟨(Option.some.inj z).symm, ds, zs.symm⟩
    · exact absurd rfl ne
  · rw [List.getElem?_set_ne ne] at h2
    exact .inl ⟨j, ds, h1, h2⟩
theorem RvQ.set {i : Nat} {v w : V} {s : Sl} {r : Rv} (h : RvQ K b F H σ e v r) (ne : ∀ a ds es, r = .own ds → s = .own es → v = .ref a → w ≠ .ref a) : RvQ K b F H (σ.set i (some w)) (e.set i s) v r := by
  cases r with
  | val d => exact h
  | own ds =>
    obtain ⟨a, xs, rfl, f1, h0, hp, ha, hd, nm⟩ := h
    exact ⟨a, xs, rfl, f1, h0, hp, ha, hd, fun m => by
      rcases m.of_set with z | ⟨z, es, zs⟩
      · exact nm z
      · exact ne a ds es rfl zs rfl z⟩
/-- later on it is a result still -/
theorem RvP.later (R : Rel K b F H σ e n) (R1 : Rel K b F' H' σ e n') (st : Stp b.pt n2 F' H' F2 H2) {v : V} {r : Rv} (h : RvP K b F H F' H' σ e v r) : RvP K b F H F2 H2 σ e v r := by
  cases r with
  | val d => exact Dq.mono (R1.plus_mono st) h
  | own ds =>
    obtain ⟨a, xs, rfl, f1, f0, ha, hd⟩ := h
    have np := (R.newH0 f0).2
    refine ⟨a, xs, rfl, ?_, f0, st.keep a _ np ha, DqAll.mono (R1.plus_mono st) hd⟩
    cases q : F2 a with
    | none => rfl
    | some o =>
      rcases st.new a (by rw [q]; simp) with z | z
      · exact absurd f1 z
      · rw [ha] at z; cases z
theorem Rel.strict (R : Rel K b F H σ e n) (R1 : Rel K b F' H' σ e n') {v : V} {r : Rv} (h : RvP K b F H F' H' σ e v r) (l : lfr r = true) : RvQ K b F' H' σ e v r := by
  cases r with
  | val d => exact R1.lf_fz h l
  | own ds =>
    obtain ⟨a, xs, rfl, f1, f0, ha, hd⟩ := h
    obtain ⟨h0, hp⟩ := R.newH0 f0
    exact ⟨a, xs, rfl, f1, h0, hp, ha, R1.lfs_fz hd l, R.notMine f0⟩
theorem Rel.strictF (R : Rel K b F H σ e n) {v : V} {r : Rv} (h : RvP K b F H F' H' σ e v r) : RvQ K b (plus F' H' σ e) H' σ (frz e) v r := by
  cases r with
  | val d => exact h
  | own ds =>
    obtain ⟨a, xs, rfl, f1, f0, ha, hd⟩ := h
    obtain ⟨h0, hp⟩ := R.newH0 f0
    have nm := R.notMine f0
    exact ⟨a, xs, rfl, by unfold plus; rw [if_neg nm]; exact f1, h0, hp, ha, hd, fun ⟨j, es, q, _⟩ => noOwn_no (frz_no e) j es q⟩
/-- the heap at which a result is laid in a slot, and the slots there -/
theorem Rel.laid (R : Rel K b F H σ e n) (st : Stp b.pt n' F H F' H') {i : Nat} {v : V} {r : Rv} (h : RvP K b F H F' H' σ e v r) : ∃ F2, Rel K b F2 H' (σ.set i (some v)) ((keepR e r).set i r.sl) n' ∧ ∀ a o, F' a = some o → F2 a = some o := by
  have R1 := R.step st
  unfold keepR
  by_cases l : lfr r = true
  · rw [if_pos l]
    exact ⟨F', R1.setR (R.strict R1 h l), fun _ _ q => q⟩
  · rw [if_neg l]
    exact ⟨_, R1.freeze.setR (R.strictF h), R1.plusF⟩
end
section
variable {X : Cx} {b : Bs}
/-! ### plain statements -/
def sSeq (p q : ST) : ST := fun W n e => p { W with nx := q W } n e
def sNext : ST := fun W n e => W.nx n e
theorem pss_nil' : Pss b X [] sNext := by
  refine ⟨weakSs pss_nil ?_⟩
  rintro D σ H ⟨F, e, n, W, R, h, k1, k2, k3, k4⟩
  exact k1 n e h F H σ R (fun _ _ q => q)
theorem pss_one' {st : Stmt} {p : ST} (h : Ps b X st p) : Pss b X [st] p := ⟨pss_one h.ps⟩
theorem pss_cons' {st : Stmt} {rest : List Stmt} {p q : ST} (h : Ps b X st p) (hr : Pss b X rest q) : Pss b X (st :: rest) (sSeq p q) := by
  refine ⟨weakSs (pss_cons h.ps hr.ps) ?_⟩
  rintro D σ H ⟨F, e, n, W, R, h, k1, k2, k3, k4⟩
  exact ⟨F, e, n, _, R, h, fun n' e' q F' H' σ' R' up => ⟨F', e', n', W, R', q, fun n'' e'' q'' F'' H'' σ'' R'' up' => k1 n'' e'' q'' F'' H'' σ'' R'' (fun a o z => up' a o (up a o z)), k2, fun n'' e'' q'' F'' H'' σ'' R'' up' => k3 n'' e'' q'' F'' H'' σ'' R'' (fun a o z => up' a o (up a o z)), fun n'' e'' q'' F'' H'' σ'' R'' up' => k4 n'' e'' q'' F'' H'' σ'' R'' (fun a o z => up' a o (up a o z))⟩, k2, k3, k4⟩
theorem ps_pass' {pos : Pos} : Ps b X (.Pass pos) sNext := by
  refine ⟨weakS ps_pass ?_⟩
  rintro D σ H ⟨F, e, n, W, R, h, k1, k2, k3, k4⟩
  exact k1 n e h F H σ R (fun _ _ q => q)
def sBreak : ST := fun W n e => W.bk n e
def sCont : ST := fun W n e => W.ct n e
theorem ps_break' {pos : Pos} : Ps b X (.Break pos) sBreak := by
  refine ⟨weakS ps_break ?_⟩
  rintro D σ H ⟨F, e, n, W, R, h, k1, k2, k3, k4⟩
  exact k3 n e h F H σ R (fun _ _ q => q)
theorem ps_cont' {pos : Pos} : Ps b X (.Continue pos) sCont := by
  refine ⟨weakS ps_continue ?_⟩
  rintro D σ H ⟨F, e, n, W, R, h, k1, k2, k3, k4⟩
  exact k4 n e h F H σ R (fun _ _ q => q)
def sNever : ST := fun _ _ _ => False
theorem ps_never' {st : Stmt} : Ps b X st sNever := ⟨weakS ps_never fun _ _ _ ⟨_, _, _, _, _, h, _⟩ => h⟩
def sIf (c : BT) (p q : ST) : ST := fun W n e => c n e fun n1 k => if k = true then p W n1 e else q W n1 e
theorem ps_if' {c : Expr} {s1 s2 : List Stmt} {pos : Pos} {pc : BT} {p q : ST} (hc : PB b X c pc) (h1 : Pss b X s1 p) (h2 : Pss b X s2 q) : Ps b X (.If c s1 s2 pos) (sIf pc p q) := by
  refine ⟨weakS (ps_if hc.pt h1.ps h2.ps) ?_⟩
  rintro D σ H ⟨F, e, n, W, R, h, k1, k2, k3, k4⟩
  refine liftB_of R h fun n1 c h1 F1 H1 R1 s1 => ?_
  have z1 : ∀ n' e', W.nx n' e' → ∀ F' H' σ', Rel X.K b F' H' σ' e' n' → (∀ a o, F1 a = some o → F' a = some o) → D.nx σ' H' := fun n' e' q F' H' σ' R' up => k1 n' e' q F' H' σ' R' fun a o z => up a o (s1.fz a o z)
  have z3 : ∀ n' e', W.bk n' e' → ∀ F' H' σ', Rel X.K b F' H' σ' e' n' → (∀ a o, F1 a = some o → F' a = some o) → D.bk σ' H' := fun n' e' q F' H' σ' R' up => k3 n' e' q F' H' σ' R' fun a o z => up a o (s1.fz a o z)
  have z4 : ∀ n' e', W.ct n' e' → ∀ F' H' σ', Rel X.K b F' H' σ' e' n' → (∀ a o, F1 a = some o → F' a = some o) → D.ct σ' H' := fun n' e' q F' H' σ' R' up => k4 n' e' q F' H' σ' R' fun a o z => up a o (s1.fz a o z)
  cases c with
  | true => exact iteT ⟨F1, e, n1, W, R1, iT h1, z1, k2, z3, z4⟩
  | false => exact iteF ⟨F1, e, n1, W, R1, iF h1, z1, k2, z3, z4⟩
/-- name = .. -/
def sSet (i : Nat) (p : RT) : ST := fun W n e => p n e fun n1 r => W.nx n1 ((keepR e r).set i r.sl)
theorem ps_set' {i : Nat} {x : Str} {ex : Expr} {p : RT} {pos pos' : Pos} (h : PR b X ex p) (hN : X.N.Nodup) (hi : X.N[i]? = some x := by rfl) (hx : Loc X.env.scope x := by first | exact .inl rfl | exact .inr rfl) (hs : swapsWith ex (some (.Name x pos')) pos.line X.env = pure false := by rfl)
    (hf : X.fn x = true ∨ X.env.scope.names.lookup x = some .local := by first | exact .inl rfl | exact .inr rfl) : Ps b X (.Assign [.Name x pos'] ex pos) (sSet i p) := by
  refine ⟨weakS (ps_set hN hi hx h.pe hs hf) ?_⟩
  rintro D σ H ⟨F, e, n, W, R, h, k1, k2, k3, k4⟩
  refine ⟨F, e, n, _, R, h, fun n1 r q F1 H1 v s1 q1 => ?_⟩
  obtain ⟨F2, R2, up⟩ := R.laid (i := i) s1 q1
  exact k1 _ _ q F2 H1 _ R2 fun a o z => up a o (s1.fz a o z)
/-- a, b = .., .. -/
def sPar (i j : Nat) (p q : RT) : ST := fun W n e => p n e fun n1 r1 => q n1 e fun n2 r2 => W.nx n2 (((if (lfr r1 && lfr r2) = true then e else frz e).set i r1.sl).set j r2.sl)
theorem liftR_of {K : PySem.W.Frag} {F H : Hp} {σ : L2.St} {e : En} {n : Nat} {p : RT} {Q : VK} {Qp : Nat → Rv → Prop} (R : Rel K b F H σ e n) (h : p n e Qp) (k : ∀ n' d, Qp n' d → ∀ F' H' v, Rel K b F' H' σ e n' → Stp b.pt n' F H F' H' → RvP K b F H F' H' σ e v d → Q v H') : liftR K b p σ H Q :=
  ⟨F, e, n, Qp, R, h, fun n' d q F' H' v st dv => k n' d q F' H' v (R.step st) st dv⟩
theorem ps_par' {i j : Nat} {x y : Str} {ea ec : Expr} {p q : RT} {px py pt pt2 pos : Pos} {kt k2} (ha : PR b X ea p) (hc : PR b X ec q) (hcm : X.calm = true) (hN : X.N.Nodup) (hi : X.N[i]? = some x := by rfl) (hj : X.N[j]? = some y := by rfl) (hij : i ≠ j := by decide)
    (hx : X.env.scope.names.lookup x = some .local := by rfl) (hy : X.env.scope.names.lookup y = some .local := by rfl)
    (hw : swappedStores [.Tuple [.Name x px, .Name y py] kt pt] (.Tuple [ea, ec] k2 pt2) X.env = pure (some [x, y]) := by rfl)
    (hs : swapsWithSole [.Tuple [.Name x px, .Name y py] kt pt] (.Tuple [ea, ec] k2 pt2) pos.line X.env = pure false := by rfl)
    (h1 : starEach [ea, ec] X.env = (false, eval ea X.env) :: starEach [ec] X.env := by rfl) (h2 : starEach [ec] X.env = (false, eval ec X.env) :: starEach [] X.env := by rfl) :
    Ps b X (.Assign [.Tuple [.Name x px, .Name y py] kt pt] (.Tuple [ea, ec] k2 pt2) pos) (sPar i j p q) := by
  refine ⟨weakS (ps_par hcm hN hi hj hij hx hy (pa_cons ha.pe (pa_cons hc.pe pa_nil h2) h1) hw hs) ?_⟩
  rintro D σ H ⟨F, e, n, W, R, h, k1, k2, k3, k4⟩
  refine liftR_of R h fun n1 r1 h1 F1 H1 v1 R1 s1 q1 => ?_
  refine liftR_of R1 h1 fun n2 r2 h2 F2 H2 v2 R2 s2 q2 => ?_
  refine ⟨v1, v2, rfl, ?_⟩
  have q1' := RvP.later R R1 s2 q1
  have ne : ∀ a ds es, r2 = .own ds → r1.sl = .own es → v2 = .ref a → v1 ≠ .ref a := by
    intro a ds es z1 z2 z3 z4
    subst z1
    cases r1 with
    | val d => cases z2
    | own es' =>
      obtain ⟨a1, xs, e1, _, _, g1, _⟩ := q1
      obtain ⟨a2, ys, e2, _, g2, _, _⟩ := q2
      rw [e2] at z3
      rw [e1] at z4
      cases z3
      cases z4
      rw [g1] at g2
      cases g2
  by_cases l : (lfr r1 && lfr r2) = true
  · rw [if_pos l] at h2
    rw [Bool.and_eq_true] at l
    have a1 := R.strict R2 q1' l.1
    have a2 := R1.strict R2 q2 l.2
    exact k1 _ _ h2 F2 H2 _ ((R2.setR a1).setR (a2.set ne)) fun a o z => s2.fz a o (s1.fz a o z)
  · rw [if_neg l] at h2
    have a1 := R.strictF q1'
    have a2 := R1.strictF q2
    exact k1 _ _ h2 _ H2 _ ((R2.freeze.setR a1).setR (a2.set ne)) fun a o z => R2.plusF a o (s2.fz a o (s1.fz a o z))
/-! ### return -/
def sRet (p : RT) : ST := fun W n e => p n e fun n1 r => W.rt n1 r
theorem Rel.ret {K : PySem.W.Frag} {F H F' H' : Hp} {σ : L2.St} {e : En} {n n' : Nat} (R : Rel K b F H σ e n) (st : Stp b.pt n' F H F' H') {v : V} {r : Rv} (h : RvP K b F H F' H' σ e v r) : ∃ F2, Ret K b F2 H' v r n' := by
  have R1 := R.step st
  have q := R.strictF h
  refine ⟨plus F' H' σ e, R1.freeze.base, ?_⟩
  cases r with
  | val d => exact q
  | own ds =>
    obtain ⟨a, xs, e1, f1, h0, hp, ha, hd, nm⟩ := q
    exact ⟨a, xs, e1, f1, h0, hp, ha, hd⟩
theorem ps_ret' {ex : Expr} {p : RT} {pos : Pos} (h : PR b X ex p) : Ps b X (.Return (some ex) pos) (sRet p) := by
  refine ⟨weakS (ps_ret h.pe) ?_⟩
  rintro D σ H ⟨F, e, n, W, R, h, k1, k2, k3, k4⟩
  refine liftR_of R h fun n1 r q F1 H1 v R1 s1 q1 => ?_
  obtain ⟨F2, z⟩ := R.ret s1 q1
  exact k2 _ _ q F2 H1 v z
def sRetN : ST := fun W n _ => W.rt n (.val .none)
theorem ps_retN' {pos : Pos} : Ps b X (.Return none pos) sRetN := by
  refine ⟨weakS ps_retN ?_⟩
  rintro D σ H ⟨F, e, n, W, R, h, k1, k2, k3, k4⟩
  exact k2 n _ h F H _ ⟨R.base, .non⟩
/-- return of a name: its own list goes out as a new one -/
def sRetV (i : Nat) : ST := fun W n e => match e[i]? with
  | some (.val d) => W.rt n (.val d)
  | some (.own ds) => W.rt n (.own ds)
  | _ => False
theorem ps_retV' {i : Nat} {x : Str} {pos p2 : Pos} (hN : X.N[i]? = some x := by rfl) (hv : Vis X.env.scope x := by first | exact Or.inl rfl | exact Or.inr (Or.inl rfl) | exact Or.inr (Or.inr rfl)) (hd : (x == ("__debug__" : Str)) = false := by decide)
    (hcd : (x == ("__classdict__" : Str)) = false := by decide) : Ps b X (.Return (some (.Name x pos)) p2) (sRetV i) := by
  refine ⟨weakS (ps_ret (pe_var hN hv hd hcd)) ?_⟩
  rintro D σ H ⟨F, e, n, W, R, h, k1, k2, k3, k4⟩
  unfold sRetV at h
  cases q : e[i]? with
  | none => rw [q] at h; exact h.elim
  | some s =>
    rw [q] at h
    obtain ⟨v, h1, h2⟩ := R.slot i s q
    cases s with
    | un => exact h.elim
    | pot => exact h.elim
    | kn w => exact h.elim
    | val d =>
      cases v with
      | none => exact h2.elim
      | some v => exact ⟨v, h1, k2 n _ h F H v ⟨R.base, h2⟩⟩
    | own ds =>
      obtain ⟨a, xs, e1, f1, f2, f3, f4, f5⟩ := h2.own_at
      subst e1
      exact ⟨_, h1, k2 n _ h F H _ ⟨R.base, a, xs, rfl, f1, f2, f3, f4, f5⟩⟩
/-! ### while -/
def sWhile (c : BT) (p : ST) : ST := fun W n e => ∃ J : Nat → Nat → En → Prop, (∃ m, J m n e) ∧ ∀ m n e, J m n e → c n e fun n1 k => if k = true then p { W with nx := fun n' e' => ∃ m', m' < m ∧ J m' n' e', ct := fun n' e' => ∃ m', m' < m ∧ J m' n' e', bk := W.nx } n1 e else W.nx n1 e
theorem ps_while' {c : Expr} {body : List Stmt} {pos : Pos} {pc : BT} {p : ST} (hp : PassesOwn (model X.prog X.w) X.A X.env X.xe) (hc : PB b X c pc) (h : Pss b X body p) : Ps b X (.While c body [] pos) (sWhile pc p) := by
  refine ⟨weakS (ps_while hp hc.pt h.ps) ?_⟩
  rintro D σ H ⟨F, e, n, W, R, ⟨J, ⟨m, h0⟩, hJ⟩, k1, k2, k3, k4⟩
  refine ⟨fun m σ H => ∃ F2 e n, Rel X.K b F2 H σ e n ∧ J m n e ∧ (∀ a o, F a = some o → F2 a = some o), ⟨m, F, e, n, R, h0, fun _ _ q => q⟩, ?_⟩
  rintro m σ H ⟨F2, e, n, R, j, up⟩
  refine liftB_of R (hJ m n e j) fun n1 c h1 F1 H1 R1 s1 => ?_
  have up1 : ∀ a o, F a = some o → F1 a = some o := fun a o z => s1.fz a o (up a o z)
  cases c with
  | false => exact iteF (k1 n1 e (iF h1) F1 H1 σ R1 up1)
  | true =>
    refine iteT ⟨fun σ' H' => ∃ m', m' < m ∧ ∃ F2 e n, Rel X.K b F2 H' σ' e n ∧ J m' n e ∧ (∀ a o, F a = some o → F2 a = some o), fun σ' H' q => q, ?_⟩
    refine ⟨F1, e, n1, _, R1, iT h1, ?_, k2, ?_, ?_⟩
    · rintro n' e' ⟨m', l, j'⟩ F' H' σ' R' up'
      exact ⟨m', l, F', e', n', R', j', fun a o z => up' a o (up1 a o z)⟩
    · intro n' e' q F' H' σ' R' up'
      exact k1 n' e' q F' H' σ' R' fun a o z => up' a o (up1 a o z)
    · rintro n' e' ⟨m', l, j'⟩ F' H' σ' R' up'
      exact ⟨m', l, F', e', n', R', j', fun a o z => up' a o (up1 a o z)⟩
end
end PL

set_option Elab.async false
set_option linter.all false
set_option maxRecDepth 100000
set_option maxHeartbeats 4000000
/-! ## What moves: lists that change; targets; loops; comprehensions -/
namespace PL
open PySem PySem.Spec PyProof.Rows L2
open Classical
section
variable {K : PySem.W.Frag} {b : Bs} {F H F' H' : Hp} {σ : L2.St} {e : En} {n n' : Nat}
/-- the slots that go on where a value is frozen -/
def keepE (e : En) (d : D) : En := if lf d = true then e else frz e
theorem liftM_of {p : MT} {Q : VK} {Qp : Nat → En → D → Prop} (R : Rel K b F H σ e n) (h : p n e Qp) (k : ∀ n' e' d, Qp n' e' d → ∀ F' H' v, Rel K b F' H' σ e' n' → (∀ a o, F a = some o → F' a = some o) → Dq K F' v d → Q v H') : liftM K b p σ H Q := ⟨F, e, n, Qp, R, h, k⟩
/-- the contents of a slot's own list change -/
theorem Rel.change (R : Rel K b F H σ e n) {i : Nat} {a : Addr} {ds es : List D} {ys : List V} (he : e[i]? = some (.own ds)) (hσ : σ[i]? = some (some (.ref a))) (hd : DqAll K F ys es) : Rel K b F (upd H a (.lst ys)) σ (e.set i (.own es)) n := by
  obtain ⟨w, w1, w2⟩ := R.slot i _ he
  rw [hσ] at w1
  cases w1
  obtain ⟨a', xs, e1, f1, f2, f3, f4, f5⟩ := w2.own_at
  cases e1
  have lt : i < e.length := (List.getElem?_eq_some_iff.mp he).1
  refine ⟨by rw [List.length_set]; exact R.len, ?_, ?_, ?_⟩
  · refine ⟨R.base.fz, fun c o q => ?_, fun c o hc q => ?_, R.base.new, fun p hp => ?_⟩
    · rw [upd_ne (ne_of_none q f1)]; exact R.base.sub c o q
    · rw [upd_ne (ne_of_none q f2)]; exact R.base.keep c o hc q
    · obtain ⟨g1, x, y, z, g2, g3⟩ := R.base.pot p hp
      refine ⟨g1, x, y, z, ?_, g3⟩
      rw [upd_ne (fun z => f3 (by rw [← z]; exact hp))]; exact g2
  · intro j s q
    rcases get_set q with ⟨rfl, rfl, _⟩ | ⟨ne, q⟩
    · exact ⟨_, hσ, a, ys, rfl, f1, f2, f3, upd_same, hd⟩
    · obtain ⟨v, h1, h2⟩ := R.slot j s q
      refine ⟨v, h1, ?_⟩
      cases s with
      | un => trivial
      | val d => cases v with
        | none => exact h2.elim
        | some v => exact h2
      | pot => cases v with
        | none => exact h2.elim
        | some v => exact h2
      | kn w => cases v with
        | none => exact h2.elim
        | some v => exact h2
      | own fs =>
        obtain ⟨c, zs, ec, g1, g2, g3, g4, g5⟩ := h2.own_at
        subst ec
        refine ⟨c, zs, rfl, g1, g2, g3, ?_, g5⟩
        rw [upd_ne (fun z => ne (R.sep i j _ _ a he q hσ (by rw [← z]; exact h1)))]
        exact g4
  · intro j k d1 d2 c h1 h2 h3 h4
    have own_of : ∀ (j : Nat) (d1 : List D), (e.set i (.own es))[j]? = some (.own d1) → ∃ d, e[j]? = some (.own d) := fun j d1 q => by
      rcases get_set q with ⟨rfl, _, _⟩ | ⟨_, q⟩
      · exact ⟨_, he⟩
      · exact ⟨_, q⟩
    obtain ⟨d3, q1⟩ := own_of j d1 h1
    obtain ⟨d4, q2⟩ := own_of k d2 h2
    exact R.sep j k d3 d4 c q1 q2 h3 h4
/-- a slot's own list becomes a value -/
theorem Rel.freeze1 (R : Rel K b F H σ e n) {i : Nat} {a : Addr} {ds : List D} {xs : List V} (he : e[i]? = some (.own ds)) (hσ : σ[i]? = some (some (.ref a))) (f4 : H a = some (.lst xs)) (f5 : DqAll K F xs ds) (f1 : F a = none) (f2 : b.H0 a = none) (f3 : b.pt ≠ some a) :
    Rel K b (upd F a (.lst xs)) H σ (e.set i (.val (.list ds))) n ∧ ∀ c o, F c = some o → upd F a (.lst xs) c = some o := by
  have up : ∀ c o, F c = some o → upd F a (.lst xs) c = some o := fun c o q => by rw [upd_ne (ne_of_none q f1)]; exact q
  refine ⟨⟨by rw [List.length_set]; exact R.len, ?_, ?_, ?_⟩, up⟩
  · refine ⟨fun c o q => up c o (R.base.fz c o q), fun c o q => ?_, R.base.keep, fun c q => ?_, fun p hp => ?_⟩
    · by_cases z : c = a
      · subst z; rw [upd_same] at q; cases q; exact f4
      · rw [upd_ne z] at q; exact R.base.sub c o q
    · by_cases z : c = a
      · subst z; exact .inr f2
      · rw [upd_ne z] at q; exact R.base.new c q
    · obtain ⟨g1, g2⟩ := R.base.pot p hp
      exact ⟨by rw [upd_ne (fun z => f3 (by rw [← z]; exact hp))]; exact g1, g2⟩
  · intro j s q
    rcases get_set q with ⟨rfl, rfl, _⟩ | ⟨ne, q⟩
    · exact ⟨_, hσ, .lst upd_same (DqAll.mono up f5)⟩
    · obtain ⟨v, h1, h2⟩ := R.slot j s q
      refine ⟨v, h1, ?_⟩
      cases s with
      | un => trivial
      | val d =>
        cases v with
        | none => exact h2.elim
        | some v => exact Dq.mono up h2
      | pot => cases v with
        | none => exact h2.elim
        | some v => exact h2
      | kn w => cases v with
        | none => exact h2.elim
        | some v => exact h2
      | own fs =>
        obtain ⟨c, zs, ec, g1, g2, g3, g4, g5⟩ := h2.own_at
        subst ec
        refine ⟨c, zs, rfl, ?_, g2, g3, g4, DqAll.mono up g5⟩
        rw [upd_ne (fun z => ne (R.sep i j _ _ a he q hσ (by rw [← z]; exact h1)))]
        exact g1
  · intro j k d1 d2 c h1 h2 h3 h4
    have own_of : ∀ (j : Nat) (d1 : List D), (e.set i (.val (.list ds)))[j]? = some (.own d1) → ∃ d, e[j]? = some (.own d) := fun j d1 q => by
      rcases get_set q with ⟨_, z, _⟩ | ⟨_, q⟩
      · cases z
      · exact ⟨_, q⟩
    obtain ⟨d3, q1⟩ := own_of j d1 h1
    obtain ⟨d4, q2⟩ := own_of k d2 h2
    exact R.sep j k d3 d4 c q1 q2 h3 h4
end
section
variable {X : Cx} {b : Bs}
/-! ### moving expressions -/
def mR (p : RT) : MT := fun n e Q => p n e fun n1 r => Q n1 (keepR e r) r.d
theorem pm_res {ex : Expr} {p : RT} (h : PR b X ex p) : PM b X ex (mR p) := by
  refine ⟨weakE h.pe ?_⟩
  rintro σ H Q ⟨F, e, n, Qp, R, h, k⟩
  refine liftR_of R h fun n1 r q F1 H1 v R1 s1 q1 => ?_
  have fin : ∀ {F2 : Hp} {e2 : En}, Rel X.K b F2 H1 σ e2 n1 → (∀ a o, F1 a = some o → F2 a = some o) → RvQ X.K b F2 H1 σ e2 v r → Qp n1 e2 r.d → Q v H1 := by
    intro F2 e2 R2 fz z qq
    cases r with
    | val d => exact k _ _ _ qq F2 H1 v R2 (fun a o q => fz a o (s1.fz a o q)) z
    | own ds =>
      obtain ⟨a, xs, rfl, f1, h0, hp, ha, hd, nm⟩ := z
      have up : ∀ c o, F2 c = some o → upd F2 a (.lst xs) c = some o := fun c o q => by rw [upd_ne (ne_of_none q f1)]; exact q
      refine k _ _ _ qq (upd F2 a (.lst xs)) H1 _ ?_ (fun c o q => up c o (fz c o (s1.fz c o q))) (.lst upd_same (DqAll.mono up hd))
      refine ⟨R2.len, ⟨fun c o q => up c o (R2.base.fz c o q), fun c o q => ?_, R2.base.keep, fun c q => ?_, fun p hp' => ?_⟩, fun j s q => ?_, R2.sep⟩
      · by_cases z : c = a
        · subst z; rw [upd_same] at q; cases q; exact ha
        · rw [upd_ne z] at q; exact R2.base.sub c o q
      · by_cases z : c = a
        · subst z; exact .inr h0
        · rw [upd_ne z] at q; exact R2.base.new c q
      · obtain ⟨g1, g2⟩ := R2.base.pot p hp'
        exact ⟨by rw [upd_ne (fun z => hp (by rw [← z]; exact hp'))]; exact g1, g2⟩
      · obtain ⟨v, h1, h2⟩ := R2.slot j s q
        refine ⟨v, h1, ?_⟩
        cases s with
        | un => trivial
        | val d =>
          cases v with
          | none => exact h2.elim
          | some v => exact Dq.mono up h2
        | pot => cases v with
          | none => exact h2.elim
          | some v => exact h2
        | kn w => cases v with
          | none => exact h2.elim
          | some v => exact h2
        | own fs =>
          obtain ⟨c, zs, ec, g1, g2, g3, g4, g5⟩ := h2.own_at
          subst ec
          refine ⟨c, zs, rfl, ?_, g2, g3, g4, DqAll.mono up g5⟩
          rw [upd_ne (fun z => nm ⟨j, fs, q, by rw [← z]; exact h1⟩)]
          exact g1
  unfold keepR at q
  by_cases l : lfr r = true
  · rw [if_pos l] at q
    exact fin R1 (fun _ _ q => q) (R.strict R1 q1 l) q
  · rw [if_neg l] at q
    exact fin R1.freeze R1.plusF (R.strictF q1) q
/-- a name: its own list is frozen -/
def mVar (i : Nat) : MT := fun n e Q => match e[i]? with
  | some (.val d) => Q n e d
  | some (.own ds) => Q n (e.set i (.val (.list ds))) (.list ds)
  | _ => False
theorem pm_var {i : Nat} {x : Str} {pos : Pos} (hN : X.N[i]? = some x := by rfl) (hv : Vis X.env.scope x := by first | exact Or.inl rfl | exact Or.inr (Or.inl rfl) | exact Or.inr (Or.inr rfl)) (hd : (x == ("__debug__" : Str)) = false := by decide)
    (hcd : (x == ("__classdict__" : Str)) = false := by decide) : PM b X (.Name x pos) (mVar i) := by
  refine ⟨weakE (pe_var hN hv hd hcd) ?_⟩
  rintro σ H Q ⟨F, e, n, Qp, R, h, k⟩
  unfold mVar at h
  cases q : e[i]? with
  | none => rw [q] at h; exact h.elim
  | some s =>
    rw [q] at h
    obtain ⟨v, h1, h2⟩ := R.slot i s q
    cases s with
    | un => exact h.elim
    | pot => exact h.elim
    | kn w => exact h.elim
    | val d =>
      cases v with
      | none => exact h2.elim
      | some v => exact ⟨v, h1, k n e d h F H v R (fun _ _ q => q) h2⟩
    | own ds =>
      obtain ⟨a, xs, e1, f1, f2, f3, f4, f5⟩ := h2.own_at
      subst e1
      obtain ⟨R2, up⟩ := R.freeze1 q h1 f4 f5 f1 f2 f3
      exact ⟨_, h1, k n _ _ h _ H _ R2 up (.lst upd_same (DqAll.mono up f5))⟩
theorem own_name {i : Nat} {x : Str} {pos : Pos} (hN : X.N[i]? = some x) (hv : Vis X.env.scope x) (hd : (x == ("__debug__" : Str)) = false) (hcd : (x == ("__classdict__" : Str)) = false) : PE X (.Name x pos) (tVar i) := pe_var hN hv hd hcd
/-- x.pop() -/
def mPop (i : Nat) : MT := fun n e Q => ∃ ds d, e[i]? = some (.own (ds ++ [d])) ∧ Q n (e.set i (.own ds)) d
theorem pm_pop {i : Nat} {x : Str} {p1 p2 p3 : Pos} (hN : X.N[i]? = some x := by rfl) (hv : Vis X.env.scope x := by first | exact Or.inl rfl | exact Or.inr (Or.inl rfl) | exact Or.inr (Or.inr rfl)) (hd : (x == ("__debug__" : Str)) = false := by decide)
    (hcd : (x == ("__classdict__" : Str)) = false := by decide) (hbase : attributeBase (.Name x p1) "pop" X.env (eval (.Name x p1) X.env) = eval (.Name x p1) X.env := by rfl) (hline : (p2.endLine == p3.line) = true := by rfl) : PM b X (.Call (.Attribute (.Name x p1) "pop" p2) [] [] p3) (mPop i) := by
  refine ⟨weakE (pe_bm0 PySem.F.plainAttrs_list PySem.F.slot_list_pop PySem.F.type_list_pop mt_pop (pe_var hN hv hd hcd) hbase hline) ?_⟩
  rintro σ H Q ⟨F, e, n, Qp, R, ⟨ds, d, he, h⟩, k⟩
  obtain ⟨v, h1, h2⟩ := R.slot i _ he
  obtain ⟨a, xs, e1, f1, f2, f3, f4, f5⟩ := h2.own_at
  subst e1
  have len := f5.length
  obtain ⟨w, w1, w2⟩ := f5.get (i := ds.length) (d := d) (by simp)
  have e2 : xs.length - 1 = ds.length := by rw [len]; simp
  refine ⟨_, h1, .inl ⟨rfl, _, .inl (.inl f4)⟩, a, xs, w, rfl, rfl, f4, by rw [e2]; exact w1, ?_⟩
  have dl : DqAll X.K F xs.dropLast ds := by
    have t := f5.take ds.length
    rw [List.take_left' rfl] at t
    rw [List.dropLast_eq_take, e2]
    exact t
  exact k n _ d h F _ w (R.change he h1 dl) (fun _ _ q => q) w2
/-- x.pop(k) -/
def mPopAt (i : Nat) (p : VT) : MT := fun n e Q => ∃ ds, e[i]? = some (.own ds) ∧ p n e fun n1 dk => ∃ (k : Nat) (d : D), dk = .int k ∧ k < 2 ^ 63 ∧ ds[k]? = some d ∧ Q n1 (e.set i (.own (ds.eraseIdx k))) d
theorem pm_popAt {i : Nat} {x : Str} {a : Expr} {pa : VT} {p1 p2 p3 : Pos} (ha : PV b X a pa) (hN : X.N[i]? = some x := by rfl) (hv : Vis X.env.scope x := by first | exact Or.inl rfl | exact Or.inr (Or.inl rfl) | exact Or.inr (Or.inr rfl)) (hd : (x == ("__debug__" : Str)) = false := by decide)
    (hcd : (x == ("__classdict__" : Str)) = false := by decide) (hbase : attributeBase (.Name x p1) "pop" X.env (eval (.Name x p1) X.env) = eval (.Name x p1) X.env := by rfl)
    (hfew : ((backTo p3 (starEach [a] X.env)).all (fun x => !x.1) && (backToKw p3 (keywordEach [] X.env)).all (fun x => x.1.isSome) && decide (([a] : List Expr).length + ([] : List Keyword).length + (if ([] : List Keyword).isEmpty then 0 else 1) < 30)) = true := by rfl)
    (hline : (p2.endLine == p3.line) = true := by rfl) (hs : starEach [a] X.env = (false, eval a X.env) :: starEach [] X.env := by rfl) (hpl : (backTo p3 (starEach [] X.env)).any (·.1) = false := by rfl) :
    PM b X (.Call (.Attribute (.Name x p1) "pop" p2) [a] [] p3) (mPopAt i pa) := by
  refine ⟨weakE (pe_bm PySem.F.plainAttrs_list PySem.F.slot_list_pop PySem.F.type_list_pop mt_popAt (pe_var hN hv hd hcd) (pa_cons ha.pe pa_nil hs) hbase hfew hline hs hpl) ?_⟩
  rintro σ H Q ⟨F, e, n, Qp, R, ⟨ds, he, h⟩, k⟩
  obtain ⟨v, h1, h2⟩ := R.slot i _ he
  obtain ⟨a, xs, e1, f1, f2, f3, f4, f5⟩ := h2.own_at
  subst e1
  refine ⟨_, h1, .inl ⟨rfl, _, .inl (.inl f4)⟩, ?_⟩
  refine liftV_of R h fun n1 dk ⟨m, d, ed, hm, hg, hq⟩ F1 H1 v1 R1 s1 q1 => ?_
  subst ed
  obtain ⟨v', h1', h2'⟩ := R1.slot i _ he
  rw [h1] at h1'
  cases h1'
  obtain ⟨a', ys, e1', g1, g2, g3, g4, g5⟩ := h2'.own_at
  cases e1'
  obtain ⟨w, w1, w2⟩ := g5.get hg
  have len := g5.length
  have lt : m < ys.length := (List.getElem?_eq_some_iff.mp w1).1
  refine ⟨a, ys, m, m, w, rfl, by rw [q1.int_of], g4, by omega, by omega, ?_, w1, ?_⟩
  · rw [seqIndex_of (by omega) (by omega)]
    simp
  · exact k n1 _ d hq F1 _ w (R1.change he h1 (g5.eraseIdx m)) s1.fz w2
/-! ### statements that change lists -/
/-- x.append(..) -/
def sApp (i : Nat) (p : MT) : ST := fun W n e => ∃ ds0, e[i]? = some (.own ds0) ∧ p n e fun n1 e1 d => ∃ ds, e1[i]? = some (.own ds) ∧ ds.length < sizeLine ∧ W.nx n1 (e1.set i (.own (ds ++ [d])))
theorem ps_append {i : Nat} {x : Str} {a : Expr} {pa : MT} {p1 p2 p3 p4 : Pos} (ha : PM b X a pa) (hN : X.N[i]? = some x := by rfl) (hv : Vis X.env.scope x := by first | exact Or.inl rfl | exact Or.inr (Or.inl rfl) | exact Or.inr (Or.inr rfl)) (hd : (x == ("__debug__" : Str)) = false := by decide)
    (hcd : (x == ("__classdict__" : Str)) = false := by decide) (hbase : attributeBase (.Name x p1) "append" X.env (eval (.Name x p1) X.env) = eval (.Name x p1) X.env := by rfl)
    (hfew : ((backTo p3 (starEach [a] X.env)).all (fun x => !x.1) && (backToKw p3 (keywordEach [] X.env)).all (fun x => x.1.isSome) && decide (([a] : List Expr).length + ([] : List Keyword).length + (if ([] : List Keyword).isEmpty then 0 else 1) < 30)) = true := by rfl)
    (hline : (p2.endLine == p3.line) = true := by rfl) (hs : starEach [a] X.env = (false, eval a X.env) :: starEach [] X.env := by rfl) (hpl : (backTo p3 (starEach [] X.env)).any (·.1) = false := by rfl)
    (hsw : swapsWith (.Call (.Attribute (.Name x p1) "append" p2) [a] [] p3) none p4.line X.env = pure false := by rfl) :
    Ps b X (.Expr (.Call (.Attribute (.Name x p1) "append" p2) [a] [] p3) p4) (sApp i pa) := by
  refine ⟨weakS (ps_expr (pe_bm PySem.F.plainAttrs_list PySem.F.slot_list_append PySem.F.type_list_append mt_append (pe_var hN hv hd hcd) (pa_cons ha.pe pa_nil hs) hbase hfew hline hs hpl) hsw) ?_⟩
  rintro D σ H ⟨F, e, n, W, R, ⟨ds0, he, h⟩, k1, k2, k3, k4⟩
  obtain ⟨v, h1, h2⟩ := R.slot i _ he
  obtain ⟨a, xs, e1, f1, f2, f3, f4, f5⟩ := h2.own_at
  subst e1
  refine ⟨_, h1, .inl ⟨rfl, _, .inl (.inl f4)⟩, ?_⟩
  refine liftM_of R h fun n1 e1 d ⟨ds, he1, hz, hq⟩ F1 H1 v1 R1 fz q1 => ?_
  obtain ⟨v', h1', h2'⟩ := R1.slot i _ he1
  rw [h1] at h1'
  cases h1'
  obtain ⟨a', ys, e1', g1, g2, g3, g4, g5⟩ := h2'.own_at
  cases e1'
  refine ⟨a, ys, v1, rfl, rfl, g4, by rw [g5.length]; exact hz, ?_⟩
  exact k1 n1 _ hq F1 _ σ (R1.change he1 h1 (g5.append (.cons q1 .nil))) fz
/-- x.extend(..) -/
def sExt (i : Nat) (p : MT) : ST := fun W n e => ∃ ds0, e[i]? = some (.own ds0) ∧ p n e fun n1 e1 d => ∃ ds es, d = .list es ∧ e1[i]? = some (.own ds) ∧ ds.length + es.length ≤ sizeLine ∧ W.nx n1 (e1.set i (.own (ds ++ es)))
theorem ps_extend {i : Nat} {x : Str} {a : Expr} {pa : MT} {p1 p2 p3 p4 : Pos} (ha : PM b X a pa) (hN : X.N[i]? = some x := by rfl) (hv : Vis X.env.scope x := by first | exact Or.inl rfl | exact Or.inr (Or.inl rfl) | exact Or.inr (Or.inr rfl)) (hd : (x == ("__debug__" : Str)) = false := by decide)
    (hcd : (x == ("__classdict__" : Str)) = false := by decide) (hbase : attributeBase (.Name x p1) "extend" X.env (eval (.Name x p1) X.env) = eval (.Name x p1) X.env := by rfl)
    (hfew : ((backTo p3 (starEach [a] X.env)).all (fun x => !x.1) && (backToKw p3 (keywordEach [] X.env)).all (fun x => x.1.isSome) && decide (([a] : List Expr).length + ([] : List Keyword).length + (if ([] : List Keyword).isEmpty then 0 else 1) < 30)) = true := by rfl)
    (hline : (p2.endLine == p3.line) = true := by rfl) (hs : starEach [a] X.env = (false, eval a X.env) :: starEach [] X.env := by rfl) (hpl : (backTo p3 (starEach [] X.env)).any (·.1) = false := by rfl)
    (hsw : swapsWith (.Call (.Attribute (.Name x p1) "extend" p2) [a] [] p3) none p4.line X.env = pure false := by rfl) :
    Ps b X (.Expr (.Call (.Attribute (.Name x p1) "extend" p2) [a] [] p3) p4) (sExt i pa) := by
  refine ⟨weakS (ps_expr (pe_bm PySem.F.plainAttrs_list PySem.F.slot_list_extend PySem.F.type_list_extend mt_extend (pe_var hN hv hd hcd) (pa_cons ha.pe pa_nil hs) hbase hfew hline hs hpl) hsw) ?_⟩
  rintro D σ H ⟨F, e, n, W, R, ⟨ds0, he, h⟩, k1, k2, k3, k4⟩
  obtain ⟨v, h1, h2⟩ := R.slot i _ he
  obtain ⟨a, xs, e1, f1, f2, f3, f4, f5⟩ := h2.own_at
  subst e1
  refine ⟨_, h1, .inl ⟨rfl, _, .inl (.inl f4)⟩, ?_⟩
  refine liftM_of R h fun n1 e1 d ⟨ds, es, ed, he1, hz, hq⟩ F1 H1 v1 R1 fz q1 => ?_
  subst ed
  obtain ⟨l2, x2, rfl, gg, dd⟩ := q1.list_of
  obtain ⟨v', h1', h2'⟩ := R1.slot i _ he1
  rw [h1] at h1'
  cases h1'
  obtain ⟨a', ys, e1', g1, g2, g3, g4, g5⟩ := h2'.own_at
  cases e1'
  refine ⟨a, l2, ys, x2, rfl, rfl, g4, R1.sub _ _ gg, by rw [g5.length, dd.length]; exact hz, ?_⟩
  exact k1 n1 _ hq F1 _ σ (R1.change he1 h1 (g5.append dd)) fz
/-- x[k] = .. -/
def sItem (i : Nat) (p : MT) (pk : VT) : ST := fun W n e => p n e fun n1 e1 d => ∃ ds0, e1[i]? = some (.own ds0) ∧ pk n1 e1 fun n2 dk => ∃ (ds : List D) (k : Nat), dk = .int k ∧ e1[i]? = some (.own ds) ∧ k < ds.length ∧ W.nx n2 (e1.set i (.own (ds.set k d)))
end
end PL

set_option Elab.async false
set_option linter.all false
set_option maxRecDepth 100000
set_option maxHeartbeats 4000000
/-! ## Targets, loops, comprehensions -/
namespace PL
open PySem PySem.Spec PyProof.Rows L2
open Classical
abbrev MAT := Nat → En → (Nat → En → List D → Prop) → Prop
def liftMA (K : PySem.W.Frag) (b : Bs) (p : MAT) : TA := fun σ H Q => ∃ F e n Qp, Rel K b F H σ e n ∧ p n e Qp ∧ ∀ n' e' ds, Qp n' e' ds → ∀ F' H' vs, Rel K b F' H' σ e' n' → (∀ a o, F a = some o → F' a = some o) → DqAll K F' vs ds → Q vs H'
structure PMs (b : Bs) (X : Cx) (es : List Expr) (p : MAT) : Prop where
  pa : PA X es (liftMA X.K b p)
section
variable {X : Cx} {b : Bs}
def mNil : MAT := fun n e Q => Q n e []
def mCons (p : MT) (q : MAT) : MAT := fun n e Q => p n e fun n1 e1 d => q n1 e1 fun n2 e2 ds => Q n2 e2 (d :: ds)
theorem pms_nil : PMs b X [] mNil := by
  refine ⟨weakA pa_nil ?_⟩
  rintro σ H Q ⟨F, e, n, Qp, R, h, k⟩
  exact k n e [] h F H [] R (fun _ _ q => q) .nil
theorem pms_cons {ex : Expr} {es : List Expr} {p : MT} {q : MAT} (ha : PM b X ex p) (hr : PMs b X es q) (hs : starEach (ex :: es) X.env = (false, eval ex X.env) :: starEach es X.env := by rfl) : PMs b X (ex :: es) (mCons p q) := by
  refine ⟨weakA (pa_cons ha.pe hr.pa hs) ?_⟩
  rintro σ H Q ⟨F, e, n, Qp, R, h, k⟩
  refine ⟨F, e, n, _, R, h, fun n1 e1 d h1 F1 H1 v R1 z1 q1 => ?_⟩
  refine ⟨F1, e1, n1, _, R1, h1, fun n2 e2 ds h2 F2 H2 vs R2 z2 q2 => ?_⟩
  exact k n2 e2 _ h2 F2 H2 _ R2 (fun a o q => z2 a o (z1 a o q)) (.cons (Dq.mono z2 q1) q2)
def mTup (p : MAT) : MT := fun n e Q => p n e fun n1 e1 ds => ds.length ≤ sizeLine ∧ Q n1 e1 (.tuple ds)
theorem Rel.layR {K : PySem.W.Frag} {F H : Hp} {σ : L2.St} {e : En} {n : Nat} (R : Rel K b F H σ e n) {p : Addr} {o : HO} (hp : H p = none) : Rel K b (upd F p o) (upd H p o) σ e n := R.step (R.lay hp)
theorem pm_tup {es : List Expr} {x1} {p : MAT} {pos : Pos} (ha : PMs b X es p) : PM b X (.Tuple es x1 pos) (mTup p) := by
  refine ⟨weakE (pe_tup ha.pa) ?_⟩
  rintro σ H Q ⟨F, e, n, Qp, R, h, k⟩
  refine ⟨F, e, n, _, R, h, fun n1 e1 ds ⟨hz, h1⟩ F1 H1 vs R1 z1 q1 => ⟨by rw [q1.length]; exact hz, fun p hp => ?_⟩⟩
  have st := R1.lay (o := .tup vs) hp
  exact k n1 e1 _ h1 _ _ _ (R1.layR hp) (fun a o q => st.fz a o (z1 a o q)) (.tup (.inl (.inl upd_same)) (DqAll.mono st.fz q1))

/-! ### targets -/
abbrev Tgt := D → Option (List (Nat × D))
def updE (e : En) : List (Nat × D) → En
  | [] => e
  | (i, d) :: r => updE (e.set i (.val d)) r
def updS (σ : L2.St) : List (Nat × V) → L2.St
  | [] => σ
  | (i, v) :: r => updS (σ.set i (some v)) r
inductive Upd (K : PySem.W.Frag) (G : Hp) : List (Nat × V) → List (Nat × D) → Prop
  | nil : Upd K G [] []
  | cons {i v d lv ld} : Dq K G v d → Upd K G lv ld → Upd K G ((i, v) :: lv) ((i, d) :: ld)
theorem Upd.append {K : PySem.W.Frag} {G : Hp} : ∀ {l1 l2 : List (Nat × V)} {m1 m2 : List (Nat × D)}, Upd K G l1 m1 → Upd K G l2 m2 → Upd K G (l1 ++ l2) (m1 ++ m2)
  | _, _, _, _, .nil, h => h
  | _, _, _, _, .cons h t, h2 => .cons h (t.append h2)
theorem updS_append : ∀ (l1 l2 : List (Nat × V)) (σ : L2.St), updS σ (l1 ++ l2) = updS (updS σ l1) l2
  | [], _, _ => rfl
  | (i, v) :: r, l2, σ => updS_append r l2 _
theorem Rel.upd {K : PySem.W.Frag} {F H : Hp} {n : Nat} : ∀ {lv : List (Nat × V)} {ld : List (Nat × D)} {σ : L2.St} {e : En}, Rel K b F H σ e n → Upd K F lv ld → Rel K b F H (updS σ lv) (updE e ld) n
  | _, _, _, _, R, .nil => R
  | _, _, _, _, R, .cons h t => (R.setVal h).upd t
/-- what a target stores -/
def Gd (K : PySem.W.Frag) (g : TG) (tg : Tgt) : Prop := ∀ (G H : Hp) (σ : L2.St) (v : V) (d : D) (l : List (Nat × D)) (Q : L2.St → Hp → Prop), (∀ a u, G a = some u → H a = some u) → Dq K G v d → tg d = some l → (∀ lv, Upd K G lv l → Q (updS σ lv) H) → g v σ H Q
def tName (i : Nat) : Tgt := fun d => some [(i, d)]
theorem gd_name {K : PySem.W.Frag} {i : Nat} : Gd K (gName i) (tName i) := by
  intro G H σ v d l Q hs hd e k
  cases e
  exact k [(i, v)] (.cons hd .nil)
abbrev Tgs := List D → Option (List (Nat × D))
structure Gds (K : PySem.W.Frag) (n : Nat) (g : TGs) (tg : Tgs) : Prop where
  len : ∀ ds l, tg ds = some l → ds.length = n
  go : ∀ (G H : Hp) (σ : L2.St) (vs : List V) (ds : List D) (l : List (Nat × D)) (Q : L2.St → Hp → Prop), (∀ a u, G a = some u → H a = some u) → DqAll K G vs ds → tg ds = some l → (∀ lv, Upd K G lv l → Q (updS σ lv) H) → g vs σ H Q
def tNil' : Tgs := fun ds => match ds with
  | [] => some []
  | _ => none
def tCons' (t : Tgt) (ts : Tgs) : Tgs := fun ds => match ds with
  | d :: r => (t d).bind fun l1 => (ts r).map fun l2 => l1 ++ l2
  | [] => none
theorem gds_nil {K : PySem.W.Frag} : Gds K 0 gNil tNil' := by
  refine ⟨(fun ds l e => by (cases ds with | nil => rfl | cons d ds => cases e)), fun G H σ vs ds l Q hs hd e k => ?_⟩
  cases hd with
  | nil => cases e; exact ⟨rfl, k [] .nil⟩
  | cons h t => cases e
theorem gds_cons {K : PySem.W.Frag} {n : Nat} {g : TG} {gs : TGs} {t : Tgt} {ts : Tgs} (kg : Gd K g t) (kgs : Gds K n gs ts) : Gds K (n + 1) (gCons g gs) (tCons' t ts) := by
  refine ⟨fun ds l e => ?_, fun G H σ vs ds l Q hs hd e k => ?_⟩
  · cases ds with
    | nil => cases e
    | cons d ds =>
      have e' : (t d).bind (fun l1 => (ts ds).map fun l2 => l1 ++ l2) = some l := e
      cases q1 : t d with
      | none => rw [q1] at e'; cases e'
      | some l1 =>
        rw [q1] at e'
        cases q2 : ts ds with
        | none => rw [q2] at e'; cases e'
        | some l2 => rw [List.length_cons, kgs.len _ _ q2]
  cases hd with
  | nil => cases e
  | @cons v vs d ds h t' =>
    have e' : (t d).bind (fun l1 => (ts ds).map fun l2 => l1 ++ l2) = some l := e
    cases q1 : t d with
    | none => rw [q1] at e'; cases e'
    | some l1 =>
      rw [q1] at e'
      cases q2 : ts ds with
      | none => rw [q2] at e'; cases e'
      | some l2 =>
        rw [q2] at e'
        have el : l1 ++ l2 = l := Option.some.inj e'
        subst el
        refine ⟨_, _, rfl, kg G H σ _ _ l1 _ hs h q1 fun lv1 u1 => ?_⟩
        refine kgs.go G H _ _ _ l2 _ hs t' q2 fun lv2 u2 => ?_
        rw [← updS_append]
        exact k _ (u1.append u2)
def tTup (ts : Tgs) : Tgt := fun d => match d with
  | .tuple ds => ts ds
  | _ => none
theorem gd_tup {K : PySem.W.Frag} {n : Nat} {g : TGs} {ts : Tgs} (kg : Gds K n g ts) : Gd K (gTup K n g) (tTup ts) := by
  intro G H σ v d l Q hs hd e k
  cases hd with
  | tup a1 a2 => exact ⟨_, _, rfl, SqT.over hs a1, by rw [a2.length]; exact kg.len _ _ e, kg.go G H σ _ _ l Q hs a2 e k⟩
  | _ => cases e
/-- target = a moving expression -/
def sAsg (tg : Tgt) (p : MT) : ST := fun W n e => p n e fun n1 e1 d => ∃ l, tg d = some l ∧ W.nx n1 (updE e1 l)
theorem ps_asg' {t ex : Expr} {g : TG} {tg : Tgt} {p : MT} {pos : Pos} (hg : PG X t g) (kg : Gd X.K g tg) (h : PM b X ex p) (hs : swapsWithSole [t] ex pos.line X.env = pure false := by rfl) (hw : swappedStores [t] ex X.env = pure none := by rfl) (h1 : (assignEach [t] X.env).map (·.2) = [assign t X.env] := by rfl) : Ps b X (.Assign [t] ex pos) (sAsg tg p) := by
  refine ⟨weakS (ps_asg h.pe hg hs hw (h1 := h1)) ?_⟩
  rintro D σ H ⟨F, e, n, W, R, h, k1, k2, k3, k4⟩
  refine liftM_of R h fun n1 e1 d ⟨l, hl, hq⟩ F1 H1 v R1 z1 q1 => ?_
  exact kg F1 H1 σ v d l _ R1.sub q1 hl fun lv u => k1 n1 _ hq F1 H1 _ (R1.upd u) z1
/-- an expression alone -/
def sEx (p : MT) : ST := fun W n e => p n e fun n1 e1 _ => W.nx n1 e1
theorem ps_ex' {ex : Expr} {p : MT} {pos : Pos} (h : PM b X ex p) (hs : swapsWith ex none pos.line X.env = pure false := by rfl) : Ps b X (.Expr ex pos) (sEx p) := by
  refine ⟨weakS (ps_expr h.pe hs) ?_⟩
  rintro D σ H ⟨F, e, n, W, R, h, k1, k2, k3, k4⟩
  exact liftM_of R h fun n1 e1 d hq F1 H1 v R1 z1 q1 => k1 n1 e1 hq F1 H1 σ R1 z1
/-! ### what is walked -/
/-- the walk J hands out these data, while this part of the heap stands -/
def Yld (K : PySem.W.Frag) (G0 : Hp) (J : It) (ds : List D) : Prop := ∀ (G H : Hp) (i : Nat), (∀ a o, G0 a = some o → G a = some o) → (∀ a o, G a = some o → H a = some o) →
  (i = ds.length → J.stop i H) ∧ ∀ d, ds[i]? = some d → J.go i H ∧ ∀ x H', J.yld i H x H' → ∃ G', Stp none 0 G H G' H' ∧ Dq K G' x d
theorem Yld.mono {K : PySem.W.Frag} {G0 G1 : Hp} {J : It} {ds : List D} (y : Yld K G0 J ds) (hs : ∀ a o, G0 a = some o → G1 a = some o) : Yld K G1 J ds := fun G H i h1 h2 => y G H i (fun a o q => h1 a o (hs a o q)) h2
theorem yld_list {K : PySem.W.Frag} {G0 : Hp} {a : Addr} {xs : List V} {ds : List D} (h : G0 a = some (.lst xs)) (hd : DqAll K G0 xs ds) : Yld K G0 (Itl K a) ds := by
  intro G H i h1 h2
  have hH := h2 _ _ (h1 _ _ h)
  refine ⟨fun e => ⟨xs, .inl (.inl hH), by rw [hd.length, e]; exact Nat.le_refl _⟩, fun d e => ?_⟩
  obtain ⟨v, e1, q1⟩ := hd.get e
  refine ⟨⟨xs, v, .inl (.inl hH), e1⟩, ?_⟩
  rintro x H' ⟨rfl, f⟩
  have e2 := f xs (.inl (.inl hH))
  rw [e1] at e2
  cases e2
  exact ⟨G, st0 h2, Dq.mono h1 q1⟩
theorem yld_tup {K : PySem.W.Frag} {G0 : Hp} {a : Addr} {xs : List V} {ds : List D} (h : SqT K G0 a xs) (hd : DqAll K G0 xs ds) : Yld K G0 (Itt K a) ds := by
  intro G H i h1 h2
  have hH : SqT K H a xs := SqT.over h2 (SqT.over h1 h)
  refine ⟨fun e => ⟨xs, hH, by rw [hd.length, e]; exact Nat.le_refl _⟩, fun d e => ?_⟩
  obtain ⟨v, e1, q1⟩ := hd.get e
  refine ⟨⟨xs, v, hH, e1⟩, ?_⟩
  rintro x H' ⟨rfl, f⟩
  have e2 := f xs hH
  rw [e1] at e2
  cases e2
  exact ⟨G, st0 h2, Dq.mono h1 q1⟩
/-- the signs of a text -/
def signs (z : Str) : List D := z.cps.toList.map fun c => .str ⟨#[c]⟩
theorem yld_str {K : PySem.W.Frag} {G0 : Hp} (z : Str) : Yld K G0 (Its z) (signs z) := by
  intro G H i h1 h2
  refine ⟨fun e => ?_, fun d e => ?_⟩
  · unfold signs at e
    rw [List.length_map, Array.length_toList] at e
    exact Nat.le_of_eq e.symm
  · unfold signs at e
    rw [List.getElem?_map] at e
    cases q : z.cps.toList[i]? with
    | none => rw [q] at e; cases e
    | some c =>
      rw [q] at e
      have ed : PyData.str ⟨#[c]⟩ = d := Option.some.inj e
      subst ed
      have lt : i < z.cps.size := by
        have := (List.getElem?_eq_some_iff.mp q).1
        rwa [Array.length_toList] at this
      refine ⟨lt, ?_⟩
      rintro x H' ⟨rfl, c', e1, rfl⟩
      have e2 : z.cps[i]? = some c := by rw [← Array.getElem?_toList]; exact q
      rw [e2] at e1
      cases e1
      exact ⟨G, st0 h2, .str _⟩
def rangeD (lo : Int) (n : Nat) : List D := (List.range n).map fun k => .int (lo + (k : Nat))
theorem yld_range {K : PySem.W.Frag} {G0 : Hp} (lo : Int) (n : Nat) : Yld K G0 (Itr lo n) (rangeD lo n) := by
  intro G H i h1 h2
  unfold rangeD
  refine ⟨fun e => ?_, fun d e => ?_⟩
  · rw [List.length_map, List.length_range] at e
    exact Nat.le_of_eq e.symm
  · rw [List.getElem?_map] at e
    cases q : (List.range n)[i]? with
    | none => rw [q] at e; cases e
    | some c =>
      rw [q] at e
      have lt : i < n := by
        have := (List.getElem?_eq_some_iff.mp q).1
        rwa [List.length_range] at this
      rw [List.getElem?_range lt] at q
      cases q
      have ed : PyData.int (lo + (i : Nat)) = d := Option.some.inj e
      subst ed
      refine ⟨lt, ?_⟩
      rintro x H' ⟨rfl, rfl⟩
      exact ⟨G, st0 h2, .int _⟩
/-- the items of data that can be walked -/
def items : D → Option (List D)
  | .list ds => some ds
  | .tuple ds => some ds
  | .str z => some (signs z)
  | _ => none
abbrev IT := Nat → En → (Nat → List D → Prop) → Prop
abbrev IMT := Nat → En → (Nat → En → List D → Prop) → Prop
def liftI (K : PySem.W.Frag) (b : Bs) (p : IT) : TI := fun σ H R => ∃ F e n Qp, Rel K b F H σ e n ∧ p n e Qp ∧ ∀ n' ds, Qp n' ds → ∀ F' H' J, Stp b.pt n' F H F' H' → Yld K (plus F' H' σ e) J ds → R J H'
def liftIM (K : PySem.W.Frag) (b : Bs) (p : IMT) : TI := fun σ H R => ∃ F e n Qp, Rel K b F H σ e n ∧ p n e Qp ∧ ∀ n' e' ds, Qp n' e' ds → ∀ F' H' J, Rel K b F' H' σ e' n' → (∀ a o, F a = some o → F' a = some o) → Yld K F' J ds → R J H'
structure PIt (b : Bs) (X : Cx) (tg it : Expr) (p : IT) : Prop where
  pi : PI X tg it (liftI X.K b p)
structure PIm (b : Bs) (X : Cx) (tg it : Expr) (p : IMT) : Prop where
  pi : PI X tg it (liftIM X.K b p)
theorem weakI {tg it : Expr} {t t' : TI} (h : PI X tg it t) (w : ∀ σ H R, t' σ H R → t σ H R) : PI X tg it t' := ⟨fun pins s σ H R I q => h.run pins s σ H R I (w _ _ _ q)⟩
/-- a list, a tuple or a text -/
def iAny (K : PySem.W.Frag) (t : TE) : TI := fun σ H R => t σ H fun x H1 => (∃ a, x = .ref a ∧ (∃ xs, SqL K H1 a xs) ∧ R (Itl K a) H1) ∨ (∃ a, x = .ref a ∧ (∃ xs, SqT K H1 a xs) ∧ R (Itt K a) H1) ∨ ∃ z, x = .str z ∧ R (Its z) H1
theorem pi_any {tg ex : Expr} {t : TE} (h : PE X ex t) : PI X tg ex (iAny X.K t) := by
  constructor
  intro pins s σ H R I hw
  refine thn (h.run pins s σ H _ I hw) ?_
  rintro v s1 ⟨x, H1, I1, r1, q⟩
  have one : ∀ (P : TE → TI) (y : V), (∀ {tt : TE}, PE X ex tt → PI X tg ex (P tt)) → True := fun _ _ _ => trivial
  have fresh : ∀ c, c ∈ [s1.heap.objs.size] → FpOk X pins H1 c := fun c hc => by
    have ec : c = s1.heap.objs.size := by simpa using hc
    rw [ec]
    exact I1.fpOk (Nat.le_refl _) (I1.hok.fresh (Nat.le_refl _))
  rcases q with ⟨a, rfl, ⟨xs, hq⟩, q⟩ | ⟨a, rfl, ⟨xs, hq⟩, q⟩ | ⟨z, rfl, q⟩
  · cases r1
    obtain ⟨its, rv, p, hz⟩ := I1.list hq
    exact wpAny_pyIter_list p.isList ⟨_, [s1.heap.objs.size], _, _, H1, rfl, I1.kept (t' := s1.toks) fun c o q => Heap.get?_push_of_some _ q, turn_list a _, ⟨_, Heap.get?_push_size _ rfl, rfl, rfl⟩, fresh, q⟩
  · cases r1
    obtain ⟨its, rv, p, hz⟩ := I1.tuple hq
    exact wpAny_pyIter_tuple (show s1.heap.IsTuple a its.toArray from p) ⟨_, [s1.heap.objs.size], _, _, H1, rfl, I1.kept (t' := s1.toks) fun c o q => Heap.get?_push_of_some _ q, turn_tuple a _, ⟨_, Heap.get?_push_size _ rfl, rfl, rfl⟩, fresh, q⟩
  · obtain ⟨t, rfl⟩ := r1
    cases ha : z.cps.all (· < 128) with
    | true => exact wpAny_pyIter_ascii ha ⟨_, [s1.heap.objs.size], _, _, H1, rfl, I1.kept (t' := s1.toks) fun c o q => Heap.get?_push_of_some _ q, turn_str _ z t _ (.inl rfl), ⟨_, Heap.get?_push_size _ rfl, rfl, rfl⟩, fresh, q⟩
    | false => exact wpAny_pyIter_wide ha ⟨_, [s1.heap.objs.size], _, _, H1, rfl, I1.kept (t' := s1.toks) fun c o q => Heap.get?_push_of_some _ q, turn_str _ z t _ (.inr rfl), ⟨_, Heap.get?_push_size _ rfl, rfl, rfl⟩, fresh, q⟩
/-- what data begin when they are walked -/
theorem yld_items {K : PySem.W.Frag} {G : Hp} {v : V} {d : D} {ds : List D} (h : Dq K G v d) (e : items d = some ds) {H1 : Hp} (hs : ∀ a o, G a = some o → H1 a = some o) {R : It → Hp → Prop} (k : ∀ J, Yld K G J ds → R J H1) :
    (∃ a, v = .ref a ∧ (∃ xs, SqL K H1 a xs) ∧ R (Itl K a) H1) ∨ (∃ a, v = .ref a ∧ (∃ xs, SqT K H1 a xs) ∧ R (Itt K a) H1) ∨ ∃ z, v = .str z ∧ R (Its z) H1 := by
  cases h with
  | lst a1 a2 => cases e; exact .inl ⟨_, rfl, ⟨_, .inl (.inl (hs _ _ a1))⟩, k _ (yld_list a1 a2)⟩
  | tup a1 a2 => cases e; exact .inr (.inl ⟨_, rfl, ⟨_, SqT.over hs a1⟩, k _ (yld_tup a1 a2)⟩)
  | str z => cases e; exact .inr (.inr ⟨z, rfl, k _ (yld_str z)⟩)
  | _ => cases e
def iSeq (p : VT) : IT := fun n e Q => p n e fun n1 d => ∃ ds, items d = some ds ∧ Q n1 ds
theorem pit_seq {tg ex : Expr} {p : VT} (h : PV b X ex p) : PIt b X tg ex (iSeq p) := by
  refine ⟨weakI (pi_any h.pe) ?_⟩
  rintro σ H R ⟨F, e, n, Qp, Rl, h, k⟩
  refine liftV_of Rl h fun n1 d ⟨ds, ed, hq⟩ F1 H1 v R1 s1 q1 => ?_
  exact yld_items q1 ed R1.plusH fun J y => k n1 ds hq F1 H1 J s1 y
def imSeq (p : MT) : IMT := fun n e Q => p n e fun n1 e1 d => ∃ ds, items d = some ds ∧ Q n1 e1 ds
theorem pim_seq {tg ex : Expr} {p : MT} (h : PM b X ex p) : PIm b X tg ex (imSeq p) := by
  refine ⟨weakI (pi_any h.pe) ?_⟩
  rintro σ H R ⟨F, e, n, Qp, Rl, h, k⟩
  refine liftM_of Rl h fun n1 e1 d ⟨ds, ed, hq⟩ F1 H1 v R1 z1 q1 => ?_
  exact yld_items q1 ed R1.sub fun J y => k n1 e1 ds hq F1 H1 J R1 z1 y
/-- range(b), range(a, b) -/
def iRan1 (p : VT) : IT := fun n e Q => p n e fun n1 d => ∃ j : Int, d = .int j ∧ -(2 ^ 62) ≤ j ∧ j < 2 ^ 62 ∧ Q n1 (rangeD 0 j.toNat)
def iRan2 (p q : VT) : IT := fun n e Q => p n e fun n1 d => q n1 e fun n2 d2 => ∃ i j : Int, d = .int i ∧ d2 = .int j ∧ (-(2 ^ 62) ≤ i ∧ i < 2 ^ 62 ∧ -(2 ^ 62) ≤ j ∧ j < 2 ^ 62) ∧ Q n2 (rangeD i (j - i).toNat)
theorem pit_range1 {tg a : Expr} {p pos : Pos} {pa : VT} (hm : X.mg "range" = none) (ha : PV b X a pa) (hg : Gl X "range" := by rfl) (hs : starEach [a] X.env = [(false, eval a X.env)] := by rfl) : PIt b X tg (.Call (.Name "range" p) [a] [] pos) (iRan1 pa) := by
  refine ⟨weakI (pi_range1 hg hm (pa_cons ha.pe pa_nil hs) hs) ?_⟩
  rintro σ H R ⟨F, e, n, Qp, Rl, h, k⟩
  refine liftV_of Rl h fun n1 d ⟨j, ed, h1, h2, hq⟩ F1 H1 v R1 s1 q1 => ?_
  subst ed
  exact ⟨j, by rw [q1.int_of], h1, h2, k n1 _ hq F1 H1 _ s1 (yld_range 0 j.toNat)⟩
theorem pit_range2 {tg a c : Expr} {p pos : Pos} {pa pc : VT} (hm : X.mg "range" = none) (ha : PV b X a pa) (hc : PV b X c pc) (hg : Gl X "range" := by rfl) (hs : starEach [a, c] X.env = [(false, eval a X.env), (false, eval c X.env)] := by rfl) (hs2 : starEach [c] X.env = [(false, eval c X.env)] := by rfl) :
    PIt b X tg (.Call (.Name "range" p) [a, c] [] pos) (iRan2 pa pc) := by
  refine ⟨weakI (pi_range2 hg hm (pa_cons ha.pe (pa_cons hc.pe pa_nil hs2) (by rw [hs, hs2])) hs hs2) ?_⟩
  rintro σ H R ⟨F, e, n, Qp, Rl, h, k⟩
  refine liftV_of Rl h fun n1 d h1 F1 H1 v1 R1 s1 q1 => ?_
  refine liftV_of R1 h1 fun n2 d2 ⟨i, j, e1, e2, hb, hq⟩ F2 H2 v2 R2 s2 q2 => ?_
  subst e1 e2
  exact ⟨i, j, by rw [q1.int_of, q2.int_of], hb, k n2 _ hq F2 H2 _ (s1.trans s2) (yld_range i (j - i).toNat)⟩
/-- a walk that leans on own lists: these are frozen -/
def imOf (p : IT) : IMT := fun n e Q => p n e fun n1 ds => Q n1 (frz e) ds
theorem pim_of {tg it : Expr} {p : IT} (h : PIt b X tg it p) : PIm b X tg it (imOf p) := by
  refine ⟨weakI h.pi ?_⟩
  rintro σ H R ⟨F, e, n, Qp, Rl, h, k⟩
  refine ⟨F, e, n, _, Rl, h, fun n1 ds hq F1 H1 J s1 y => ?_⟩
  exact k n1 _ ds hq _ H1 J (Rl.step s1).freeze (fun a o z => (Rl.step s1).plusF a o (s1.fz a o z)) y
end
end PL

set_option Elab.async false
set_option linter.all false
set_option maxRecDepth 100000
set_option maxHeartbeats 4000000
/-! ## for, comprehensions -/
namespace PL
open PySem PySem.Spec PyProof.Rows L2
open Classical
section
variable {X : Cx} {b : Bs}
theorem pim_range1 {tg a : Expr} {p pos : Pos} {pa : VT} (hm : X.mg "range" = none) (ha : PV b X a pa) (hg : Gl X "range" := by rfl) (hs : starEach [a] X.env = [(false, eval a X.env)] := by rfl) : PIm b X tg (.Call (.Name "range" p) [a] [] pos) (fun n e Q => iRan1 pa n e fun n1 ds => Q n1 e ds) := by
  refine ⟨weakI (pi_range1 hg hm (pa_cons ha.pe pa_nil hs) hs) ?_⟩
  rintro σ H R ⟨F, e, n, Qp, Rl, h, k⟩
  refine liftV_of Rl h fun n1 d ⟨j, ed, h1, h2, hq⟩ F1 H1 v R1 s1 q1 => ?_
  subst ed
  exact ⟨j, by rw [q1.int_of], h1, h2, k n1 e _ hq F1 H1 _ R1 s1.fz (yld_range 0 j.toNat)⟩
theorem pim_range2 {tg a c : Expr} {p pos : Pos} {pa pc : VT} (hm : X.mg "range" = none) (ha : PV b X a pa) (hc : PV b X c pc) (hg : Gl X "range" := by rfl) (hs : starEach [a, c] X.env = [(false, eval a X.env), (false, eval c X.env)] := by rfl) (hs2 : starEach [c] X.env = [(false, eval c X.env)] := by rfl) :
    PIm b X tg (.Call (.Name "range" p) [a, c] [] pos) (fun n e Q => iRan2 pa pc n e fun n1 ds => Q n1 e ds) := by
  refine ⟨weakI (pi_range2 hg hm (pa_cons ha.pe (pa_cons hc.pe pa_nil hs2) (by rw [hs, hs2])) hs hs2) ?_⟩
  rintro σ H R ⟨F, e, n, Qp, Rl, h, k⟩
  refine liftV_of Rl h fun n1 d h1 F1 H1 v1 R1 s1 q1 => ?_
  refine liftV_of R1 h1 fun n2 d2 ⟨i, j, e1, e2, hb, hq⟩ F2 H2 v2 R2 s2 q2 => ?_
  subst e1 e2
  exact ⟨i, j, by rw [q1.int_of, q2.int_of], hb, k n2 e _ hq F2 H2 _ R2 (fun a o z => s2.fz a o (s1.fz a o z)) (yld_range i (j - i).toNat)⟩
/-! ### for -/
def forL (tg : Tgt) (p : ST) : List D → Pn → Nat → En → Prop
  | [], W, n, e => W.nx n e
  | d :: r, W, n, e => ∃ l, tg d = some l ∧ p { W with nx := forL tg p r W, ct := forL tg p r W, bk := W.nx } n (updE e l)
def sFor (src : IMT) (tg : Tgt) (p : ST) : ST := fun W n e => src n e fun n1 e1 ds => forL tg p ds W n1 e1
theorem Rel.stp0 {K : PySem.W.Frag} {F H F' H' : Hp} {σ : L2.St} {e : En} {n : Nat} (R : Rel K b F H σ e n) (st : Stp none 0 F H F' H') : Rel K b F' H' σ e n := by
  refine R.step ⟨st.fz, st.sub, fun a o _ q => st.keep a o (by simp) q, st.new, fun p hp => ?_⟩
  obtain ⟨h1, x, y, z, h2, h3⟩ := R.pot p hp
  refine ⟨?_, x, y, z, st.keep p _ (by simp) h2, h3⟩
  cases q : F' p with
  | none => rfl
  | some o =>
    rcases st.new p (by rw [q]; simp) with z1 | z1
    · exact absurd h1 z1
    · rw [h2] at z1; cases z1
theorem ps_for' {iter t : Expr} {body : List Stmt} {pos : Pos} {src : IMT} {g : TG} {tg : Tgt} {p : ST} (hp : PassesOwn (model X.prog X.w) X.A X.env X.xe) (hc : X.calm = true) (hi : PIm b X t iter src) (hg : PG X t g) (kg : Gd X.K g tg) (h : Pss b X body p)
    (hs : ∀ x, foldedSetIterable iter X.env x = pure x := by intro _; rfl) : Ps b X (.For t iter body [] pos) (sFor src tg p) := by
  refine ⟨weakS (ps_for hp hc hi.pi hg h.ps (hs := hs)) ?_⟩
  rintro D σ H ⟨F, e, n, W, R, h, k1, k2, k3, k4⟩
  refine ⟨F, e, n, _, R, h, fun n1 e1 ds hq F1 H1 J R1 z1 y => ?_⟩
  refine ⟨fun i m σ H => m = ds.length - i ∧ i ≤ ds.length ∧ ∃ F e n, Rel X.K b F H σ e n ∧ (∀ a o, F1 a = some o → F a = some o) ∧ forL tg p (ds.drop i) W n e, ⟨ds.length, by omega, by omega, F1, e1, n1, R1, fun _ _ q => q, hq⟩, ?_⟩
  rintro i m σ H ⟨rfl, hi, F, e, n, R, up, hq⟩
  obtain ⟨y1, y2⟩ := y F H i up R.sub
  by_cases lt : i < ds.length
  · refine .inr ?_
    obtain ⟨d, hd⟩ : ∃ d, ds[i]? = some d := ⟨ds[i], by simp [lt]⟩
    obtain ⟨go, yy⟩ := y2 d hd
    have ed : ds.drop i = d :: ds.drop (i + 1) := by
      rw [List.drop_eq_getElem_cons lt]
      congr 1
      rw [List.getElem?_eq_getElem lt] at hd
      exact Option.some.inj hd
    rw [ed] at hq
    obtain ⟨l, hl, hb⟩ := hq
    have next : ∀ (n' : Nat) (e' : En), forL tg p (ds.drop (i + 1)) W n' e' → ∀ F' H' σ', Rel X.K b F' H' σ' e' n' → (∀ a o, F1 a = some o → F' a = some o) → ∃ m', m' < ds.length - i ∧ (m' = ds.length - (i + 1) ∧ i + 1 ≤ ds.length ∧ ∃ F e n, Rel X.K b F H' σ' e n ∧ (∀ a o, F1 a = some o → F a = some o) ∧ forL tg p (ds.drop (i + 1)) W n e) :=
      fun n' e' q F' H' σ' R' up' => ⟨ds.length - (i + 1), by omega, rfl, lt, F', e', n', R', up', q⟩
    refine ⟨go, fun σ' H' => ∃ m', m' < ds.length - i ∧ (m' = ds.length - (i + 1) ∧ i + 1 ≤ ds.length ∧ ∃ F e n, Rel X.K b F H' σ' e n ∧ (∀ a o, F1 a = some o → F a = some o) ∧ forL tg p (ds.drop (i + 1)) W n e), fun σ' H' q => q, fun x H' hx => ?_⟩
    obtain ⟨G', st, q1⟩ := yy x H' hx
    have R2 := R.stp0 st
    refine kg G' H' σ x d l _ R2.sub q1 hl fun lv u => ?_
    have R3 := R2.upd u
    refine ⟨G', updE e l, n, _, R3, hb, ?_, k2, ?_, ?_⟩
    · intro n' e' q F' H2 σ' R' up'
      exact next n' e' q F' H2 σ' R' fun a o z => up' a o (st.fz a o (up a o z))
    · intro n' e' q F' H2 σ' R' up'
      exact k1 n' e' q F' H2 σ' R' fun a o z => up' a o (st.fz a o (up a o (z1 a o z)))
    · intro n' e' q F' H2 σ' R' up'
      exact next n' e' q F' H2 σ' R' fun a o z => up' a o (st.fz a o (up a o z))
  · have e0 : i = ds.length := by omega
    refine .inl ⟨y1 e0, ?_⟩
    rw [e0, List.drop_length] at hq
    exact k1 n e hq F H σ R fun a o z => up a o (z1 a o z)
/-! ### comprehensions -/
def wipeE (e : En) : List Nat → En
  | [] => e
  | v :: vs => (wipeE e vs).set v .un
theorem Rel.wipe {K : PySem.W.Frag} {F H : Hp} {σ : L2.St} {e : En} {n : Nat} (R : Rel K b F H σ e n) : ∀ vs : List Nat, Rel K b F H (L2.wipe σ vs) (wipeE e vs) n
  | [] => R
  | v :: vs => by
    have R1 := Rel.wipe R vs
    show Rel K b F H ((L2.wipe σ vs).set v none) ((wipeE e vs).set v .un) n
    refine ⟨by rw [List.length_set, List.length_set]; exact R1.len, R1.base, fun j s q => ?_, fun j k d1 d2 a h1 h2 h3 h4 => ?_⟩
    · rcases get_set q with ⟨rfl, rfl, lt⟩ | ⟨ne, q⟩
      · exact ⟨none, List.getElem?_set_self (by rw [R1.len]; exact lt), trivial⟩
      · obtain ⟨w, h1, h2⟩ := R1.slot j s q
        exact ⟨w, by rw [List.getElem?_set_ne ne]; exact h1, h2⟩
    · rcases get_set h1 with ⟨_, z, _⟩ | ⟨n1, h1⟩
      · cases z
      · rcases get_set h2 with ⟨_, z, _⟩ | ⟨n2, h2⟩
        · cases z
        · rw [List.getElem?_set_ne n1] at h3
          rw [List.getElem?_set_ne n2] at h4
          exact R1.sep j k d1 d2 a h1 h2 h3 h4
/-- the target stores in these slots alone -/
def Tin (tg : Tgt) (vs : List Nat) : Prop := ∀ d l, tg d = some l → ∀ p ∈ l, p.1 ∈ vs
theorem tin_name {i : Nat} {vs : List Nat} (h : i ∈ vs) : Tin (tName i) vs := by
  intro d l e p hp
  cases e
  have : p = (i, d) := by simpa using hp
  rw [this]; exact h
def Tins (ts : Tgs) (vs : List Nat) : Prop := ∀ ds l, ts ds = some l → ∀ p ∈ l, p.1 ∈ vs
theorem tins_nil {vs : List Nat} : Tins tNil' vs := by
  intro ds l e p hp
  cases ds with
  | nil => cases e; cases hp
  | cons d ds => cases e
theorem tins_cons {t : Tgt} {ts : Tgs} {vs : List Nat} (h1 : Tin t vs) (h2 : Tins ts vs) : Tins (tCons' t ts) vs := by
  intro ds l e p hp
  cases ds with
  | nil => cases e
  | cons d ds =>
    have e' : (t d).bind (fun l1 => (ts ds).map fun l2 => l1 ++ l2) = some l := e
    cases q1 : t d with
    | none => rw [q1] at e'; cases e'
    | some l1 =>
      rw [q1] at e'
      cases q2 : ts ds with
      | none => rw [q2] at e'; cases e'
      | some l2 =>
        rw [q2] at e'
        have el : l1 ++ l2 = l := Option.some.inj e'
        subst el
        rcases List.mem_append.mp hp with z | z
        · exact h1 d l1 q1 p z
        · exact h2 ds l2 q2 p z
theorem tin_tup {ts : Tgs} {vs : List Nat} (h : Tins ts vs) : Tin (tTup ts) vs := by
  intro d l e p hp
  cases d with
  | tuple ds => exact h ds l e p hp
  | _ => cases e
theorem wipe_set {σ : L2.St} {i : Nat} {v : V} : ∀ {vs : List Nat}, i ∈ vs → L2.wipe (σ.set i (some v)) vs = L2.wipe σ vs
  | [], h => by cases h
  | w :: vs, h => by
    show (L2.wipe (σ.set i (some v)) vs).set w none = (L2.wipe σ vs).set w none
    by_cases e : i ∈ vs
    · rw [wipe_set e]
    · have ew : i = w := by
        rcases List.mem_cons.mp h with z | z
        · exact z
        · exact absurd z e
      subst ew
      have key : ∀ us : List Nat, i ∉ us → L2.wipe (σ.set i (some v)) us = (L2.wipe σ us).set i (some v) := by
        intro us
        induction us with
        | nil => intro _; rfl
        | cons u us ih =>
          intro hn
          have h1 : i ≠ u := fun z => hn (by rw [z]; exact List.mem_cons_self)
          have h2 : i ∉ us := fun z => hn (List.mem_cons_of_mem _ z)
          show (L2.wipe (σ.set i (some v)) us).set u none = ((L2.wipe σ us).set u none).set i (some v)
          rw [ih h2, List.set_comm _ _ h1]
      rw [key vs e, List.set_set]
theorem wipe_wipe {σ : L2.St} {i : Nat} : ∀ {vs : List Nat}, i ∈ vs → (L2.wipe σ vs).set i none = L2.wipe σ vs
  | [], h => by cases h
  | w :: vs, h => by
    show ((L2.wipe σ vs).set w none).set i none = (L2.wipe σ vs).set w none
    by_cases e : i = w
    · subst e; rw [List.set_set]
    · have : i ∈ vs := by
        rcases List.mem_cons.mp h with z | z
        · exact absurd z e
        · exact z
      rw [List.set_comm _ _ (Ne.symm e), wipe_wipe this]
theorem wipe_idem {σ : L2.St} : ∀ (us vs : List Nat), (∀ i ∈ us, i ∈ vs) → L2.wipe (L2.wipe σ vs) us = L2.wipe σ vs
  | [], _, _ => rfl
  | u :: us, vs, h => by
    show (L2.wipe (L2.wipe σ vs) us).set u none = _
    rw [wipe_idem us vs fun i hi => h i (List.mem_cons_of_mem _ hi), wipe_wipe (h u List.mem_cons_self)]
theorem wipe_upd {K : PySem.W.Frag} {G : Hp} {vs : List Nat} : ∀ {lv : List (Nat × V)} {l : List (Nat × D)} {σ : L2.St}, Upd K G lv l → (∀ p ∈ l, p.1 ∈ vs) → L2.wipe (updS σ lv) vs = L2.wipe σ vs
  | _, _, _, .nil, _ => rfl
  | _, _, σ, .cons (i := i) (v := v) (d := d) h t, hm => by
    show L2.wipe (updS (σ.set i (some v)) _) vs = _
    rw [wipe_upd t fun p hp => hm p (List.mem_cons_of_mem _ hp), wipe_set (hm (i, d) List.mem_cons_self)]
theorem noOwn_set {e : En} {i : Nat} {s : Sl} (hs : ∀ ds, s ≠ .own ds) : noOwn e = true → noOwn (e.set i s) = true := by
  induction e generalizing i with
  | nil => intro h; exact h
  | cons t e ih =>
    intro h
    have h' : noOwn e = true := by cases t <;> simp_all [noOwn]
    cases i with
    | zero =>
      show noOwn (s :: e) = true
      cases s with
      | own ds => exact absurd rfl (hs ds)
      | _ => simpa [noOwn] using h'
    | succ i =>
      show noOwn (t :: e.set i s) = true
      cases t with
      | own ds => simp [noOwn] at h
      | _ => simpa [noOwn] using ih h'
theorem noOwn_wipe {e : En} (h : noOwn e = true) : ∀ vs : List Nat, noOwn (wipeE e vs) = true
  | [] => h
  | v :: vs => noOwn_set (fun _ z => by cases z) (noOwn_wipe h vs)
theorem noOwn_upd : ∀ {l : List (Nat × D)} {e : En}, noOwn e = true → noOwn (updE e l) = true
  | [], _, h => h
  | (i, d) :: r, e, h => noOwn_upd (l := r) (noOwn_set (fun _ z => by cases z) h)
def compL (tg : Tgt) (tt : BT) (te : VT) (vs : List Nat) (e : En) : List D → List D → Nat → (Nat → List D → Prop) → Prop
  | [], acc, n, Q => Q n acc
  | d :: r, acc, n, Q => ∃ l, tg d = some l ∧ tt n (updE (wipeE e vs) l) fun n1 c => if c = true then te n1 (updE (wipeE e vs) l) fun n2 y => acc.length < sizeLine ∧ compL tg tt te vs e r (acc ++ [y]) n2 Q else compL tg tt te vs e r acc n1 Q
def oLc (src : IT) (tg : Tgt) (tt : BT) (te : VT) (vs : List Nat) : OT := fun n e Q => src n (frz e) fun n1 ds => compL tg tt te vs (frz e) ds [] n1 Q
/-- the tests of a comprehension -/
structure PBs (b : Bs) (X : Cx) (es : List Expr) (p : BT) : Prop where
  pt : PTs X es (liftB X.K b p)
def bYes : BT := fun n _ Q => Q n true
theorem weakTs {es : List Expr} {t t' : TT} (h : PTs X es t) (w : ∀ σ H Q, t' σ H Q → t σ H Q) : PTs X es t' := ⟨fun pins s σ H Q I q => h.run pins s σ H Q I (w _ _ _ q)⟩
theorem pbs_nil : PBs b X [] bYes := by
  refine ⟨weakTs pts_nil ?_⟩
  rintro σ H Q ⟨F, e, n, Qp, R, h, k⟩
  exact k n true h F H R.refl
theorem pbs_one {c : Expr} {p : BT} (h : PB b X c p) : PBs b X [c] p := ⟨pts_one h.pt⟩
theorem tLc_of {it t elt : Expr} {src : IT} {g : TG} {tg : Tgt} {tt : BT} {te : VT} {vs : List Nat} (kg : Gd X.K g tg) (hin : Tin tg vs) {σ : L2.St} {H : Hp} {Q : VK} (h : liftO X.K b (oLc src tg tt te vs) σ H Q) : tLc (liftI X.K b src) g (liftB X.K b tt) (liftV X.K b te) vs σ H Q := by
  obtain ⟨F, e, n, Qp, R, h, k⟩ := h
  have R0 := R.freeze
  refine ⟨_, frz e, n, _, R0, h, fun n1 ds hq F1 H1 J s1 y L hL => ?_⟩
  rw [plus_noOwn (frz_no e)] at y
  have R1 := R0.step s1
  have hF1 : F1 L = none := by
    cases z : F1 L with
    | none => rfl
    | some o => rw [R1.sub L o z] at hL; cases hL
  have npot : b.pt ≠ some L := fun z => by
    obtain ⟨_, x, yy, w, q, _⟩ := R1.pot L z
    rw [hL] at q; cases q
  have hH : H L = none := by
    cases z : H L with
    | none => rfl
    | some o => rw [s1.keep L o npot z] at hL; cases hL
  refine ⟨fun i m Hc => m = ds.length - i ∧ i ≤ ds.length ∧ ∃ Fc nc acc accV, Stp b.pt nc (plus F H σ e) H Fc Hc ∧ Fc L = none ∧ Hc L = some (.lst accV) ∧ DqAll X.K Fc accV acc ∧ (∀ a o, F1 a = some o → Fc a = some o) ∧ compL tg tt te vs (frz e) (ds.drop i) acc nc Qp,
    ⟨ds.length, by omega, by omega, F1, n1, [], [], ?_, hF1, upd_same, .nil, fun _ _ q => q, hq⟩, ?_⟩
  · exact (R1.newObj (o := .lst []) s1 hL).1
  rintro i m Hc ⟨rfl, hi, Fc, nc, acc, accV, st, fL, gL, dl, up, hc⟩
  have Rc := R0.step st
  obtain ⟨y1, y2⟩ := y Fc Hc i up Rc.sub
  by_cases lt : i < ds.length
  · refine .inr ?_
    obtain ⟨d, hd⟩ : ∃ d, ds[i]? = some d := ⟨ds[i], by simp [lt]⟩
    obtain ⟨go, yy⟩ := y2 d hd
    have ed : ds.drop i = d :: ds.drop (i + 1) := by
      rw [List.drop_eq_getElem_cons lt]
      congr 1
      rw [List.getElem?_eq_getElem lt] at hd
      exact Option.some.inj hd
    rw [ed] at hc
    obtain ⟨l, hl, ht⟩ := hc
    refine ⟨go, fun H' => ∃ m', m' < ds.length - i ∧ (m' = ds.length - (i + 1) ∧ i + 1 ≤ ds.length ∧ ∃ Fc nc acc accV, Stp b.pt nc (plus F H σ e) H Fc H' ∧ Fc L = none ∧ H' L = some (.lst accV) ∧ DqAll X.K Fc accV acc ∧ (∀ a o, F1 a = some o → Fc a = some o) ∧ compL tg tt te vs (frz e) (ds.drop (i + 1)) acc nc Qp), fun H' q => q, fun x H' hx => ?_⟩
    obtain ⟨G', sy, q1⟩ := yy x H' hx
    have R2 := Rc.stp0 sy
    have sy' : Stp b.pt nc Fc Hc G' H' := ⟨sy.fz, sy.sub, fun a o _ q => sy.keep a o (by simp) q, sy.new, R2.pot⟩
    refine kg G' H' (L2.wipe σ vs) x d l _ R2.sub q1 hl fun lv u => ⟨?_, ?_⟩
    · rw [wipe_upd u (hin d l hl), wipe_idem vs vs fun _ h => h]
    have R3 := (R2.wipe vs).upd u
    have no3 : noOwn (updE (wipeE (frz e) vs) l) = true := noOwn_upd (noOwn_wipe (frz_no e) vs)
    have keepL : ∀ {Fx Hx Fy Hy : Hp} {nx : Nat}, Stp b.pt nx Fx Hx Fy Hy → Fx L = none → ∀ {o}, Hx L = some o → Fy L = none ∧ Hy L = some o := by
      intro Fx Hx Fy Hy nx s f o h
      refine ⟨?_, s.keep L o npot h⟩
      cases z : Fy L with
      | none => rfl
      | some u =>
        rcases s.new L (by rw [z]; simp) with w | w
        · exact absurd f w
        · rw [h] at w; cases w
    obtain ⟨f2, g2⟩ := keepL sy' fL gL
    refine ⟨G', _, nc, _, R3, ht, fun n3 c hc F3 H3 s3 => ?_⟩
    have R4 := R3.step s3
    obtain ⟨f3, g3⟩ := keepL s3 f2 g2
    have st3 : Stp b.pt n3 (plus F H σ e) H F3 H3 := (st.trans sy').trans s3
    have up3 : ∀ a o, F1 a = some o → F3 a = some o := fun a o z => s3.fz a o (sy'.fz a o (up a o z))
    have dl3 : DqAll X.K F3 accV acc := DqAll.mono (fun a o z => s3.fz a o (sy'.fz a o z)) dl
    cases c with
    | false => exact iteF ⟨ds.length - (i + 1), by omega, rfl, lt, F3, n3, acc, accV, st3, f3, g3, dl3, up3, iF hc⟩
    | true =>
      refine iteT ⟨F3, _, n3, _, R4, iT hc, fun n4 yd ⟨hz, hq4⟩ F4 H4 yv s4 dy => ?_⟩
      rw [plus_noOwn no3] at dy
      obtain ⟨f4, g4⟩ := keepL s4 f3 g3
      have st4 := st3.trans s4
      refine ⟨accV, g4, by rw [dl.length]; exact hz, ds.length - (i + 1), by omega, rfl, lt, F4, n4, acc ++ [yd], accV ++ [yv], ?_, f4, upd_same, (DqAll.mono s4.fz dl3).append (.cons dy .nil), fun a o z => s4.fz a o (up3 a o z), hq4⟩
      refine ⟨st4.fz, fun a o q => ?_, fun a o hp q => ?_, st4.new, fun p hp => ?_⟩
      · rw [upd_ne (ne_of_none q f4)]; exact st4.sub a o q
      · rw [upd_ne (ne_of_none q hH)]; exact st4.keep a o hp q
      · obtain ⟨g1, x1, x2, x3, g5, g6⟩ := st4.pot p hp
        exact ⟨g1, x1, x2, x3, by rw [upd_ne (fun z => npot (by rw [← z]; exact hp))]; exact g5, g6⟩
  · have e0 : i = ds.length := by omega
    refine .inl ⟨y1 e0, ?_⟩
    rw [e0, List.drop_length] at hc
    obtain ⟨F', st', m1, m2⟩ := R.over st (.inl rfl)
    exact k nc acc hc F' Hc L accV st' (m2 L fL) hH gL (DqAll.mono m1 dl)
theorem po_lc {elt t iter : Expr} {ifs : List Expr} {scope : Scope} {own : List (Str × Nat)} {pos : Pos} {src : IT} {g : TG} {tg : Tgt} {tt : BT} {te : VT} (hc : X.calm = true) (hN : X.N.Nodup) (hi : PIt b X t iter src) (ok : BlkOk X.N X.env.scope scope own)
    (hg : ∀ (s : Shared) (H : Hp) (C : Addr) (cl : List (Str × Addr)) (fp : List Addr), PG (X.blk s H scope (compEnvC scope cl C X.env) fp) t g) (kg : Gd X.K g tg) (hin : Tin tg (own.map (·.2)))
    (ht : ∀ (s : Shared) (H : Hp) (C : Addr) (cl : List (Str × Addr)) (fp : List Addr), PBs b (X.blk s H scope (compEnvC scope cl C X.env) fp) ifs tt)
    (he : ∀ (s : Shared) (H : Hp) (C : Addr) (cl : List (Str × Addr)) (fp : List Addr), PV b (X.blk s H scope (compEnvC scope cl C X.env) fp) elt te) (hs : ∀ x, foldedSetIterable iter X.env x = pure x := by intro _; rfl) :
    PO b X (.ListComp elt [⟨t, iter, ifs, 0⟩] scope pos) (oLc src tg tt te (own.map (·.2))) :=
  ⟨weakE (pe_lc hc hN hi.pi ok hg (fun s H C cl fp => (ht s H C cl fp).pt) (fun s H C cl fp => (he s H C cl fp).pe) hs) fun σ H Q h => tLc_of (it := iter) (t := t) (elt := elt) kg hin h⟩
end
end PL

set_option Elab.async false
set_option linter.all false
set_option maxRecDepth 100000
set_option maxHeartbeats 4000000
/-! ## Defs and calls -/
namespace PL
open PySem PySem.Spec PyProof.Rows L2
open Classical
abbrev FT := List D → (Rv → Prop) → Prop
abbrev FD := Nat → List D → (Nat → Rv → Prop) → Prop
/-- a def that answers data with data -/
def spP (K : PySem.W.Frag) (k : Nat) (Φ : FT) : Sp := fun vs H Q _ => ∃ F ds Qp, ds.length = k ∧ (∀ a o, F a = some o → H a = some o) ∧ DqAll K F vs ds ∧ Φ ds Qp ∧ ∀ r, Qp r → ∀ F' H' v, Ret K ⟨F, H, none⟩ F' H' v r 0 → Q v H'
/-- a def whose first parameter is the pot of draws -/
def spD (K : PySem.W.Frag) (k : Nat) (Φ : FD) : Sp := fun vs H Q _ => ∃ F ds n Qp p ws, vs = .ref p :: ws ∧ ds.length = k ∧ (∀ a o, F a = some o → H a = some o) ∧ PotOk (some p) n F H ∧ DqAll K F ws ds ∧ Φ n ds Qp ∧
  ∀ n' r, Qp n' r → ∀ F' H' v, Ret K ⟨F, H, some p⟩ F' H' v r n' → Q v H'
section
variable {K : PySem.W.Frag} {b : Bs} {F H : Hp} {n : Nat}
/-- slots at the entry -/
inductive Ent (K : PySem.W.Frag) (b : Bs) (F H : Hp) : List V → En → Prop
  | nil : Ent K b F H [] []
  | cons {v vs s e} : SlOk K b F H (some v) s → (∀ ds, s ≠ .own ds) → Ent K b F H vs e → Ent K b F H (v :: vs) (s :: e)
theorem Ent.len : ∀ {vs : List V} {e : En}, Ent K b F H vs e → vs.length = e.length
  | _, _, .nil => rfl
  | _, _, .cons _ _ t => congrArg (· + 1) t.len
theorem Ent.get : ∀ {vs : List V} {e : En} {i : Nat} {s : Sl}, Ent K b F H vs e → e[i]? = some s → ∃ v, vs[i]? = some v ∧ SlOk K b F H (some v) s ∧ ∀ ds, s ≠ .own ds
  | _, _, _, _, .nil, h => by simp at h
  | _, _, 0, _, .cons h1 h2 t, h => by simp at h; subst h; exact ⟨_, rfl, h1, h2⟩
  | _, _, i + 1, _, .cons h1 h2 t, h => by
    obtain ⟨v, e1, e2⟩ := t.get (i := i) (by simpa using h)
    exact ⟨v, by simpa using e1, e2⟩
theorem ent_vals : ∀ {vs : List V} {ds : List D}, DqAll K F vs ds → Ent K b F H vs (ds.map Sl.val)
  | _, _, .nil => .nil
  | _, _, .cons h t => .cons h (fun _ z => by cases z) (ent_vals t)
theorem Rel.start {pt : Option Addr} {N : List Str} {vs : List V} {e : En} (hs : ∀ a o, F a = some o → H a = some o) (hp : PotOk pt n F H) (h : Ent K ⟨F, H, pt⟩ F H vs e) :
    Rel K ⟨F, H, pt⟩ F H (L2.start N vs) (e ++ List.replicate (N.length - vs.length) .un) n := by
  have key : ∀ (i : Nat) (s : Sl), (e ++ List.replicate (N.length - vs.length) Sl.un)[i]? = some s → (∃ v, vs[i]? = some v ∧ SlOk K ⟨F, H, pt⟩ F H (some v) s ∧ ∀ ds, s ≠ .own ds) ∨ (vs.length ≤ i ∧ s = .un ∧ i - vs.length < N.length - vs.length) := by
    intro i s q
    by_cases lt : i < e.length
    · rw [List.getElem?_append_left lt] at q
      exact .inl (h.get q)
    · rw [List.getElem?_append_right (by omega), List.getElem?_replicate] at q
      split at q
      · cases q; exact .inr ⟨by rw [h.len]; omega, rfl, by rw [h.len]; rw [h.len] at *; omega⟩
      · cases q
  refine ⟨?_, Stp.refl hs hp, fun i s q => ?_, fun i j ds ds' a q => ?_⟩
  · unfold L2.start
    rw [List.length_append, List.length_append, List.length_replicate, List.length_replicate, List.length_map, h.len]
  · unfold L2.start
    rcases key i s q with ⟨v, e1, e2, _⟩ | ⟨l, rfl, l2⟩
    · have lt : i < vs.length := (List.getElem?_eq_some_iff.mp e1).1
      rw [List.getElem?_append_left (by rw [List.length_map]; exact lt), List.getElem?_map, e1]
      exact ⟨some v, rfl, e2⟩
    · rw [List.getElem?_append_right (by rw [List.length_map]; exact l), List.length_map, List.getElem?_replicate, if_pos l2]
      exact ⟨none, rfl, trivial⟩
  · exfalso
    rcases key i _ q with ⟨v, _, _, z⟩ | ⟨_, z, _⟩
    · exact z ds rfl
    · cases z
end
section
variable {P : Program} {w : World} {K : PySem.W.Frag} {mg : Str → Option Value} {base : Heap} {CX : CXT}
def fill (N : List Str) (e : En) : En := e ++ List.replicate (N.length - e.length) .un
/-- a def on data, from its body -/
theorem fnP {x qual : Str} {st : Stmt} {f : Addr} {fd : FuncData} {N ps : List Str} {k : Nat} {Φ : FT} {p : ST} (Fn : Fun K x qual st f fd) (S : FnScope N ps (defScope st))
    (body : ∀ (b : Bs) (cdv : Value) (A : Around) (outer : List Env) (s : Shared) (H : Hp) (E : XK), b.pt = none → Room k (A.deeper (envOfC qual (defScope st) s.heap.objs.size f cdv)) → A.guards = some [] → Pss b (cxOf CX P w K mg base N qual (defScope st) f cdv A outer s H E) (defBody st) p)
    (hp : ∀ (ds : List D) (Q : Rv → Prop), ds.length = ps.length → Φ ds Q → p { nx := fun _ _ => Q (.val .none), rt := fun _ r => Q r } 0 (fill N (ds.map Sl.val))) : FnG P w K mg base CX (k + 1) f fd ps (spP K ps.length Φ) := by
  refine fnG Fn S (fun vs H Q E h => ?_) fun cdv A outer s H vs Q E hr hg h => ?_
  · obtain ⟨F, ds, Qp, h1, _, h2, _⟩ := h
    rw [h2.length, h1]
  obtain ⟨F, ds, Qp, hl, hs, hd, hΦ, hQ⟩ := h
  refine ⟨_, (body ⟨F, H, none⟩ cdv A outer s H E rfl hr hg).ps, ?_⟩
  refine ⟨F, _, 0, { nx := fun _ _ => Qp (.val .none), rt := fun _ r => Qp r }, Rel.start hs none0 (ent_vals hd), ?_, ?_, ?_, ?_, ?_⟩
  · have := hp ds Qp hl hΦ
    unfold fill at this
    rw [List.length_map] at this
    rw [hd.length]
    exact this
  · intro n' e' q F' H' σ' R' up
    exact hQ _ q F' H' _ ⟨R'.base.any, .non⟩
  · intro n' r q F' H' v rt
    exact hQ r q F' H' v ⟨rt.1.any, rt.2⟩
  · intro _ _ q; exact q.elim
  · intro _ _ q; exact q.elim
/-- a def on the pot and data -/
theorem fnD {x qual : Str} {st : Stmt} {f : Addr} {fd : FuncData} {N ps : List Str} {k j : Nat} {Φ : FD} {p : ST} (Fn : Fun K x qual st f fd) (S : FnScope N ps (defScope st)) (hj : ps.length = j + 1)
    (body : ∀ (b : Bs) (cdv : Value) (A : Around) (outer : List Env) (s : Shared) (H : Hp) (E : XK), Room k (A.deeper (envOfC qual (defScope st) s.heap.objs.size f cdv)) → A.guards = some [] → Pss b (cxOf CX P w K mg base N qual (defScope st) f cdv A outer s H E) (defBody st) p)
    (hp : ∀ (n : Nat) (ds : List D) (Q : Nat → Rv → Prop), ds.length = j → Φ n ds Q → p { nx := fun n' _ => Q n' (.val .none), rt := Q } n (fill N (.pot :: ds.map Sl.val))) : FnG P w K mg base CX (k + 1) f fd ps (spD K j Φ) := by
  refine fnG Fn S (fun vs H Q E h => ?_) fun cdv A outer s H vs Q E hr hg h => ?_
  · obtain ⟨F, ds, n, Qp, p, ws, rfl, h1, _, _, h2, _⟩ := h
    rw [List.length_cons, h2.length, h1, hj]
  obtain ⟨F, ds, n, Qp, p, ws, rfl, hl, hs, hpot, hd, hΦ, hQ⟩ := h
  refine ⟨_, (body ⟨F, H, some p⟩ cdv A outer s H E hr hg).ps, ?_⟩
  refine ⟨F, _, n, { nx := fun n' _ => Qp n' (.val .none), rt := Qp }, Rel.start hs hpot (.cons (s := .pot) ⟨p, rfl, rfl⟩ (fun _ z => by cases z) (ent_vals hd)), ?_, ?_, ?_, ?_, ?_⟩
  · have := hp n ds Qp hl hΦ
    unfold fill at this
    rw [List.length_cons, List.length_map] at this
    rw [List.length_cons, hd.length]
    exact this
  · intro n' e' q F' H' σ' R' up
    exact hQ _ _ q F' H' _ ⟨R'.base, .non⟩
  · intro n' r q F' H' v rt
    exact hQ _ r q F' H' v rt
  · intro _ _ q; exact q.elim
  · intro _ _ q; exact q.elim
end
section
variable {K : PySem.W.Frag} {b : Bs} {F H : Hp} {σ : L2.St} {e : En} {n : Nat} {X : Cx}
/-- a value of a new list -/
theorem Rel.own_val {F1 H1 : Hp} {n1 : Nat} (R : Rel K b F H σ e n) (s1 : Stp b.pt n1 F H F1 H1) {a : Addr} {xs : List V} {ds : List D} (f1 : F1 a = none) (f0 : H a = none) (ha : H1 a = some (.lst xs)) (hd : DqAll K (plus F1 H1 σ e) xs ds) :
    ∃ F2, Stp b.pt n1 F H F2 H1 ∧ Dq K (plus F2 H1 σ e) (.ref a) (.list ds) := by
  have R1 := R.step s1
  have npot : b.pt ≠ some a := (R.newH0 f0).2
  have nm : ¬ Mine σ e a := R.notMine f0
  refine ⟨L2.upd F1 a (.lst xs), ⟨fun c o q => ?_, fun c o q => ?_, s1.keep, fun c q => ?_, fun p hp => ?_⟩, .lst ?_ (DqAll.mono (fun c o q => ?_) hd)⟩
  · have q1 := s1.fz c o q
    rw [upd_ne (ne_of_none q1 f1)]; exact q1
  · by_cases z : c = a
    · subst z; rw [upd_same] at q; cases q; exact ha
    · rw [upd_ne z] at q; exact s1.sub c o q
  · by_cases z : c = a
    · subst z; exact .inr f0
    · rw [upd_ne z] at q; exact s1.new c q
  · obtain ⟨g1, g2⟩ := s1.pot p hp
    exact ⟨by rw [upd_ne (fun z => npot (by rw [← z]; exact hp))]; exact g1, g2⟩
  · unfold plus; rw [if_neg nm, upd_same]
  · unfold plus at q ⊢
    by_cases m : Mine σ e c
    · rw [if_pos m] at q ⊢; exact q
    · rw [if_neg m] at q ⊢
      rw [upd_ne (ne_of_none q f1)]; exact q
def vR (p : RT) : VT := fun n e Q => p n e fun n1 r => Q n1 r.d
theorem pv_ofR {ex : Expr} {p : RT} (h : PR b X ex p) : PV b X ex (vR p) := by
  refine ⟨weakE h.pe ?_⟩
  rintro σ H Q ⟨F, e, n, Qp, R, h, k⟩
  refine ⟨F, e, n, _, R, h, fun n1 r q F1 H1 v s1 q1 => ?_⟩
  cases r with
  | val d => exact k n1 _ q F1 H1 v s1 q1
  | own ds =>
    obtain ⟨a, xs, rfl, f1, f0, ha, hd⟩ := q1
    obtain ⟨F2, s2, d2⟩ := R.own_val s1 f1 f0 ha hd
    exact k n1 _ q F2 H1 _ s2 d2
/-- behind a call: what the callee hands back, in the caller's frame -/
theorem Rel.called (R : Rel K b F H σ e n) {pt' : Option Addr} {n' : Nat} {F' H' : Hp} {v : V} {r : Rv} (h : Ret K ⟨plus F H σ e, H, pt'⟩ F' H' v r n') (hp : pt' = b.pt ∨ (pt' = none ∧ n' = n)) : ∃ F2, Stp b.pt n' F H F2 H' ∧ RvP K b F H F2 H' σ e v r := by
  obtain ⟨st, q⟩ := h
  obtain ⟨F2, s2, m1, m2⟩ := R.over st hp
  refine ⟨F2, s2, ?_⟩
  cases r with
  | val d => exact Dq.mono m1 q
  | own ds =>
    obtain ⟨a, xs, rfl, f1, f0, _, ha, hd⟩ := q
    exact ⟨a, xs, rfl, m2 a f1, f0, ha, DqAll.mono m1 hd⟩
theorem RvP.back {F1 H1 F2 H2 : Hp} {n1 : Nat} (R : Rel K b F H σ e n) (s1 : Stp b.pt n1 F H F1 H1) {v : V} {r : Rv} (h : RvP K b F1 H1 F2 H2 σ e v r) : RvP K b F H F2 H2 σ e v r := by
  cases r with
  | val d => exact h
  | own ds =>
    obtain ⟨a, xs, rfl, f1, f0, ha, hd⟩ := h
    refine ⟨a, xs, rfl, f1, ?_, ha, hd⟩
    cases q : H a with
    | none => rfl
    | some o =>
      by_cases c : b.pt = some a
      · obtain ⟨_, x, y, z, g, _⟩ := s1.pot a c
        rw [f0] at g; cases g
      · rw [s1.keep a o c q] at f0; cases f0
end
section
variable {X : Cx} {b : Bs} {CX : CXT} {k j : Nat} {f : Addr} {fd : FuncData} {ps : List Str} {x : Str} {p pos : Pos} {e : Expr} {es : List Expr} {Φ : FT} {Ψ : FD} {pa : AT}
def rCall (Φ : FT) (j : Nat) (pa : AT) : RT := fun n e Q => pa n e fun n1 ds => ds.length = j ∧ Φ ds fun r => Q n1 r
theorem liftA_call {σ : L2.St} {H : Hp} {Q : VK} {E : XK} {F : Hp} {en : En} {n : Nat} {Qp : Nat → Rv → Prop} (R : Rel X.K b F H σ en n) (h : rCall Φ j pa n en Qp)
    (k : ∀ n' r, Qp n' r → ∀ F' H' v, Stp b.pt n' F H F' H' → RvP X.K b F H F' H' σ en v r → Q v H') : liftA X.K b pa σ H fun vs H1 => spP X.K j Φ vs H1 Q E := by
  refine liftA_of R h fun n1 ds ⟨hl, hq⟩ F1 H1 vs R1 s1 q1 => ?_
  refine ⟨_, ds, _, hl, R1.plusH, q1, hq, fun r q F' H' v rt => ?_⟩
  obtain ⟨F2, s2, q2⟩ := R1.called (n' := n1) (⟨rt.1.any, rt.2⟩ : Ret X.K ⟨plus F1 H1 σ en, H1, none⟩ F' H' v r n1) (.inr ⟨rfl, rfl⟩)
  exact k n1 r q F2 H' v (s1.trans s2) (q2.back R s1)
/-- f(a, ..) -/
theorem pr_call (F : FnG X.prog X.w X.K X.mg X.base CX k f fd ps (spP X.K j Φ)) (hr : Room k X.A) (hgd : X.A.guards = some []) (hm : X.mg x = some (.ref f)) (hk : PySem.W.keepIn X.K (.ref f) = true) (hb : Binds X.K fd ps []) (hx : ∀ E, Passes CX X E)
    (ha : PAs b X (e :: es) pa) (hg : Gl X x := by rfl) (hdb : (x == ("__debug__" : Str)) = false := by decide) (he : starEach (e :: es) X.env = (false, eval e X.env) :: starEach es X.env := by rfl) (hpl : (backTo pos (starEach es X.env)).any (·.1) = false := by rfl) :
    PR b X (.Call (.Name x p) (e :: es) [] pos) (rCall Φ j pa) := by
  refine ⟨weakE (pe_callG F hr hgd hg hm hk hb (hx fun _ _ _ => False) ha.pa hdb he hpl) ?_⟩
  rintro σ H Q ⟨F, en, n, Qp, R, h, k⟩
  exact liftA_call R h k
/-- f() -/
theorem pr_call0 (F : FnG X.prog X.w X.K X.mg X.base CX k f fd ps (spP X.K 0 Φ)) (hr : Room k X.A) (hgd : X.A.guards = some []) (hm : X.mg x = some (.ref f)) (hk : PySem.W.keepIn X.K (.ref f) = true) (hb : Binds X.K fd ps []) (hx : ∀ E, Passes CX X E)
    (hg : Gl X x := by rfl) (hdb : (x == ("__debug__" : Str)) = false := by decide) : PR b X (.Call (.Name x p) [] [] pos) (rCall Φ 0 pNil) := by
  refine ⟨weakE (pe_callG0 F hr hgd hg hm hk hb (hx fun _ _ _ => False) hdb) ?_⟩
  rintro σ H Q ⟨F, en, n, Qp, R, h, k⟩
  refine ⟨_, [], _, rfl, R.plusH, .nil, h.2, fun r q F' H' v rt => ?_⟩
  obtain ⟨F2, s2, q2⟩ := R.called (n' := n) (⟨rt.1.any, rt.2⟩ : Ret X.K ⟨plus F H σ en, H, none⟩ F' H' v r n) (.inr ⟨rfl, rfl⟩)
  exact k n r q F2 H' v s2 q2
/-! keywords -/
structure PKs (b : Bs) (X : Cx) (es : List Keyword) (p : AT) : Prop where
  pk : PK X es (liftA X.K b p)
theorem weakK {es : List Keyword} {t t' : TA} (h : PK X es t) (w : ∀ σ H Q, t' σ H Q → t σ H Q) : PK X es t' := ⟨fun pos pins s σ H Q I q => h.run pos pins s σ H Q I (w _ _ _ q)⟩
theorem pks_nil : PKs b X [] pNil := by
  refine ⟨weakK pk_nil ?_⟩
  rintro σ H Q ⟨F, e, n, Qp, R, h, k⟩
  exact k n [] h F H [] R.refl .nil
theorem pks_cons {ex : Expr} {kws : List Keyword} {nm : Option Str} {kpos : Pos} {pa : VT} {pr : AT} (ha : PV b X ex pa) (hr : PKs b X kws pr) : PKs b X (⟨nm, ex, kpos⟩ :: kws) (pCons pa pr) := by
  refine ⟨weakK (pk_cons ha.pe hr.pk) ?_⟩
  rintro σ H Q ⟨F, e, n, Qp, R, h, k⟩
  refine liftV_of R h fun n1 d1 h1 F1 H1 v1 R1 s1 q1 => ?_
  refine liftA_of R1 h1 fun n2 d2 h2 F2 H2 v2 R2 s2 q2 => ?_
  exact k n2 _ h2 F2 H2 _ (s1.trans s2) (.cons (Dq.mono (R1.plus_mono s2) q1) q2)
/-- f(k = c, ..), the keywords in the parameters' order -/
theorem pr_callK0 {ks : List Str} {kws : List Keyword} {g : List Value → List Value → List Value} (F : FnG X.prog X.w X.K X.mg X.base CX k f fd ps (spP X.K j Φ)) (hr : Room k X.A) (hgd : X.A.guards = some []) (hm : X.mg x = some (.ref f)) (hk : PySem.W.keepIn X.K (.ref f) = true)
    (hb : KBinds X.K fd ps ks g (fun _ zs => zs)) (hx : ∀ E, Passes CX X E) (hkw : PKs b X kws pa) (hall : (backToKw pos (keywordEach kws X.env)).all (·.1.isSome) = true := by rfl) (hks : (backToKw pos (keywordEach kws X.env)).filterMap (·.1) = ks := by rfl)
    (hg : Gl X x := by rfl) (hdb : (x == ("__debug__" : Str)) = false := by decide)
    (hpl : ((backTo pos (starEach [] X.env)).any (·.1) || (backToKw pos (keywordEach kws X.env)).any (·.1.isNone)) = false := by rfl) :
    PR b X (.Call (.Name x p) [] kws pos) (rCall Φ j pa) := by
  refine ⟨weakE (pe_callGK0 F hr hgd hg hm hk hb (hx fun _ _ _ => False) hkw.pk hall hks hdb hpl) ?_⟩
  rintro σ H Q ⟨F, en, n, Qp, R, h, k⟩
  exact liftA_call R h k
/-! with the pot -/
def rCallD (i : Nat) (Ψ : FD) (j : Nat) (pa : AT) : RT := fun n e Q => e[i]? = some .pot ∧ pa n e fun n1 ds => ds.length = j ∧ Ψ n1 ds Q
theorem pr_callD {i : Nat} {y : Str} {py : Pos} (F : FnG X.prog X.w X.K X.mg X.base CX k f fd ps (spD X.K j Ψ)) (hr : Room k X.A) (hgd : X.A.guards = some []) (hm : X.mg x = some (.ref f)) (hk : PySem.W.keepIn X.K (.ref f) = true) (hb : Binds X.K fd ps []) (hx : ∀ E, Passes CX X E)
    (ha : PAs b X es pa) (hN : X.N[i]? = some y := by rfl) (hv : Vis X.env.scope y := by first | exact Or.inl rfl | exact Or.inr (Or.inl rfl) | exact Or.inr (Or.inr rfl)) (hd : (y == ("__debug__" : Str)) = false := by decide)
    (hcd : (y == ("__classdict__" : Str)) = false := by decide) (hg : Gl X x := by rfl) (hdb : (x == ("__debug__" : Str)) = false := by decide) (he : starEach (.Name y py :: es) X.env = (false, eval (.Name y py) X.env) :: starEach es X.env := by rfl) (hpl : (backTo pos (starEach es X.env)).any (·.1) = false := by rfl) :
    PR b X (.Call (.Name x p) (.Name y py :: es) [] pos) (rCallD i Ψ j pa) := by
  refine ⟨weakE (pe_callG F hr hgd hg hm hk hb (hx fun _ _ _ => False) (pa_cons (pe_var hN hv hd hcd) ha.pa he) hdb he hpl) ?_⟩
  rintro σ H Q ⟨F, en, n, Qp, R, ⟨hi, h⟩, k⟩
  obtain ⟨v, h1, h2⟩ := R.slot i _ hi
  cases v with
  | none => exact h2.elim
  | some v =>
  obtain ⟨q0, hpt, rfl⟩ := h2
  refine ⟨_, h1, ?_⟩
  refine liftA_of R h fun n1 ds ⟨hl, hq⟩ F1 H1 vs R1 s1 q1 => ?_
  have nm : ¬ Mine σ en q0 := fun m => by
    obtain ⟨_, _, _, _, _, _, _, z, _⟩ := R1.mine m
    exact z hpt
  obtain ⟨g1, g2⟩ := R1.pot q0 hpt
  refine ⟨_, ds, n1, _, q0, vs, rfl, hl, R1.plusH, fun a ea => ?_, q1, hq, fun n' r q F' H' v rt => ?_⟩
  · cases ea
    refine ⟨?_, g2⟩
    unfold plus
    rw [if_neg nm]; exact g1
  · obtain ⟨F2, s2, q2⟩ := R1.called rt (.inl hpt.symm)
    exact k n' r q F2 H' v (s1.trans s2) (q2.back R s1)
end
end PL

set_option Elab.async false
set_option linter.all false
set_option maxRecDepth 100000
set_option maxHeartbeats 4000000
/-! ## enumerate, zip -/
namespace PLE
open PySem PySem.Spec PyProof.Rows L2
theorem meets_enum1 {v : Value} {o : Obj} {H : Heap → Prop} (B : Begins v o H) :
    Meets (Builtin.«enumerate.__new__» ⟨[.type "enumerate", v], []⟩) (fun _ R s => H s.heap ∧
      R (.ok (.ret (.ref (s.heap.push o).objs.size))) { s with heap := (s.heap.push o).push { cls := .type "enumerate", data := .fields #[.none, .bool false, .ref s.heap.objs.size, rawInt 0, .none, .none] } }) :=
  .of_wp fun prog w A R s h => by
    obtain ⟨hp, g, d, tk, os⟩ := s; obtain ⟨h1, h⟩ := h
    have hsub := sub_enumerate
    have q1 : ∀ {A' : Around} {E : Value → Shared → Prop} {Q : Value → Shared → Prop}, Q (.ref hp.objs.size) ⟨hp.push o, g, d, tk, os⟩ → wpAny (model prog w) A' (pyIter v) Q E ⟨hp, g, d, tk, os⟩ :=
      fun q => B.iter prog w _ _ ⟨hp, g, d, tk, os⟩ _ h1 q
    wp_walk using q1
    refine wpAny_stack_any fun st => wpAny_pure ?_
    split
    · rename_i c _ _ _ _ _
      cases (c == Value.type "enumerate")
      · wp_walk using q1
        exact ⟨_, rfl, h⟩
      · wp_walk using q1
        exact ⟨_, rfl, h⟩
    · wp_walk using q1
      exact ⟨_, rfl, h⟩
theorem call_enum1 {prog : Program} {w : World} {A : Around} {E : Value → Shared → Prop} {s : Shared} {v : Value} {o : Obj} {H : Heap → Prop} {Q : Value → Shared → Prop} (B : Begins v o H) (h1 : H s.heap)
    (h : ∀ h', IsEnum h' (s.heap.objs.size + 1) s.heap.objs.size 0 .none → h'.get? s.heap.objs.size = some o → h'.objs.size = s.heap.objs.size + 2 →
      (∀ b o, s.heap.get? b = some o → h'.get? b = some o) → Q (.ref (s.heap.objs.size + 1)) { s with heap := h' }) :
    wpAny (model prog w) A (call (.type "enumerate") [v]) Q E s := by
  refine callType_new F.called_enumerate (by decide) (F.typeCall_enumerate_1 _) (F.newCall_enumerate_1 _) (fun obj => F.args_object_init_2 obj _) F.entry_enumerate_new
    (meets_enum1 B) ⟨h1, ?_⟩
  have hz : (s.heap.push o).objs.size = s.heap.objs.size + 1 := Heap.size_push ..
  show _ ∧ _
  rw [hz]
  have he : IsEnum ((s.heap.push o).push { cls := .type "enumerate", data := .fields #[.none, .bool false, .ref s.heap.objs.size, rawInt 0, .none, .none] }) (s.heap.objs.size + 1) s.heap.objs.size 0 .none := by
    have := Heap.get?_push_size (s.heap.push o) (o := { cls := .type "enumerate", data := .fields #[.none, .bool false, .ref s.heap.objs.size, rawInt 0, .none, .none] }) rfl
    rw [hz] at this; exact this
  refine ⟨⟨_, he, rfl⟩, h _ he (Heap.get?_push_of_some _ (Heap.get?_push_size _ B.free)) (by rw [Heap.size_push, hz]) fun b o x => Heap.get?_push_of_some _ (Heap.get?_push_of_some _ x)⟩
/-- the tuple at a as it stands, each item in a new pair -/
def IteT (K : PySem.W.Frag) (a : Addr) : It :=
  ⟨fun i H => ∃ (xs : List V) (x : V), SqT K H a xs ∧ xs[i]? = some x, fun i H v H' => ∃ T x, v = .ref T ∧ H T = none ∧ H' = upd H T (.tup [.int (i : Nat), x]) ∧ ∀ xs, SqT K H a xs → xs[i]? = some x, fun i H => ∃ xs : List V, SqT K H a xs ∧ xs.length = i⟩
theorem turn_enumT {P : Program} {w : World} {K : PySem.W.Frag} {elts : List Expr} {kk : Nat} {tpos : Pos} (a e it : Addr) :
    Turn P w K (.Tuple elts kk tpos) (IteT K a) [e, it] e (fun i h => (∃ old, IsEnum h e it ((i : Nat) : Int) old) ∧ h.IsTupleIter it a i ∧ e ≠ it ∧ e ≠ a ∧ a ≠ it) where
  mem := by simp
  obj := fun i h st b hb => by
    obtain ⟨⟨old, he⟩, ⟨o, ho, hc, hd⟩, _⟩ := st
    have e' : b = e ∨ b = it := by simpa using hb
    rcases e' with z | z
    · rw [z]; exact ⟨_, he, fun v q => nomatch q⟩
    · rw [z]; exact ⟨o, ho, fun v q => by rw [hd] at q; cases q⟩
  keep := fun i h h' st k => let ⟨⟨old, he⟩, hi, hne⟩ := st; ⟨⟨old, k e (by simp) _ he⟩, hi.at fun o q => k it (by simp) o q, hne⟩
  item := by
    intro X hP hw hK hc i pins s σ H E I hf st hg
    subst hP hw hK
    obtain ⟨⟨old, he⟩, hit, hne, hea, hai⟩ := st
    obtain ⟨xs, x, hq, hx⟩ := hg
    obtain ⟨its, rv, p, hz⟩ := I.tuple hq
    obtain ⟨u, hu, ru⟩ := rv.get hx
    have hel : e < s.heap.objs.size := Heap.lt_size he
    have hil : it < s.heap.objs.size := by obtain ⟨_, q, _⟩ := hit; exact Heap.lt_size q
    have Dr := Draws.tuple (prog := X.prog) (w := X.w) (A := X.A.in1) (I.ok.hd hc) it a hai its.toArray
    have lt : i < its.toArray.size := by
      have := (List.getElem?_eq_some_iff.mp hu).1
      simpa using this
    refine wpAny_pyNext_enum_itemD Dr he ⟨hit, p⟩ lt hne (by simp [hne, hea]) fun u' h' tk hP ho st' hT hsz hk => ?_
    have eu : u' = u := by
      have : its[i]? = some u' := by simpa using hP
      rw [hu] at this; exact (Option.some.inj this).symm
    subst eu
    refine ⟨_, rfl, wpAny_letOwnedTupleGo_enum (s := { s with heap := h', toks := tk + 1 }) ho fun h'' he' sb => ?_⟩
    have hT2 : h''.get? s.heap.objs.size = some { cls := .type "tuple", data := .seq #[.int i tk, u'] } := (sb.2 _ (Nat.ne_of_gt hel)).trans hT
    have new : ObjOk X.prog X.w (upd H s.heap.objs.size (.tup [.int (i : Nat), x])) h'' s.heap.objs.size (.tup [.int (i : Nat), x]) :=
      ⟨by show 2 ≤ sizeLine; decide, [.int i tk, u'], .cons ⟨_, rfl⟩ (.cons ru .nil), ⟨_, hT2, rfl, _, rfl⟩⟩
    have I1 : Inv X pins σ (upd H s.heap.objs.size (.tup [.int (i : Nat), x])) { s with heap := h'', toks := tk + 1 } :=
      I.turnedNew (ch := [e, it]) (fun b ob hb q => (sb.2 b (fun z => hb (by simp [z]))).trans (hk b ob (fun z => hb (by simp [z])) (fun z => hb (by simp [z])) q)) hf (Nat.le_refl _) new
    refine ⟨.ref s.heap.objs.size, _, I1, rfl, ⟨_, x, rfl, I.hok.fresh (Nat.le_refl _), rfl, fun ys hy => by rw [I.tuple_inj hy hq]; exact hx⟩, ⟨⟨u', ?_⟩, st'.1.at fun o q => (sb.2 it (Ne.symm hne)).trans q, hne, hea, hai⟩, fun b hb => ?_⟩
    · have e1 : ((i + 1 : Nat) : Int) = (i : Int) + 1 := by omega
      rw [e1]; exact he'
    · have hb' : b < s.heap.objs.size := by
        have e' : b = e ∨ b = it := by simpa using hb
        rcases e' with z | z
        · rw [z]; exact hel
        · rw [z]; exact hil
      rw [upd_ne (Nat.ne_of_lt hb')]
      exact (hf b hb).1
  done := by
    intro X hP hw hK hc i pins s σ H E I hf st hg
    subst hP hw hK
    obtain ⟨⟨old, he⟩, hit, hne, hea, hai⟩ := st
    obtain ⟨xs, hq, hx⟩ := hg
    obtain ⟨its, rv, p, hz⟩ := I.tuple hq
    obtain ⟨f0, f1, f2, f3, f4, f5⟩ := hf it (by simp)
    have hl := rv.length
    have Dr := Draws.tuple (prog := X.prog) (w := X.w) (A := X.A.in1) (I.ok.hd hc) it a hai its.toArray
    have ei : i = its.toArray.size := by simp; omega
    subst ei
    exact wpAny_pyNext_enum_endD Dr he ⟨hit, p⟩ fun h' eb => ⟨rfl, I.turned (t' := s.toks) (fun b o hb q => eb b o hb q) f0 f1 f3 f4 f5⟩
  self := fun A i s Q E st h => let ⟨⟨_, he⟩, _⟩ := st; wpAny_pyIter_enum he h
def iEnumA (K : PySem.W.Frag) (ta : TA) : TI := fun σ H R => ta σ H fun vs H1 => ∃ a xs, vs = [.ref a] ∧ ((SqL K H1 a xs ∧ R (Ite K a) H1) ∨ (SqT K H1 a xs ∧ R (IteT K a) H1))
theorem pi_enumA {X : Cx} {e : Expr} {ta : TA} {p pos tpos : Pos} {elts : List Expr} {kk : Nat} (hg : Gl X "enumerate") (hm : X.mg "enumerate" = none) (ha : PA X [e] ta) (hs : starEach [e] X.env = [(false, eval e X.env)] := by rfl) :
    PI X (.Tuple elts kk tpos) (.Call (.Name "enumerate" p) [e] [] pos) (iEnumA X.K ta) := by
  refine ⟨fun pins s σ H R I h => ?_⟩
  refine Call_ (ld_blt I hg hm boot_enumerate (PyProof.Rows.callWith_type1 (thn (ha.run pos pins s σ H _ I h) fun us s1 ⟨vs, H1, I1, r1, q1⟩ => ?_) hs rfl))
  obtain ⟨a, xs, ex, q⟩ := q1
  subst ex
  cases r1 with
  | cons r rr =>
    cases rr
    cases r
    have fresh : ∀ b, b ∈ [s1.heap.objs.size + 1, s1.heap.objs.size] → FpOk X pins H1 b := fun b hb => by
      have e' : b = s1.heap.objs.size + 1 ∨ b = s1.heap.objs.size := by simpa using hb
      have hle : s1.heap.objs.size ≤ b := by
        rcases e' with z | z
        · rw [z]; exact Nat.le_add_right _ _
        · rw [z]; exact Nat.le_refl _
      exact I1.fpOk hle (I1.hok.fresh hle)
    rcases q with ⟨hq, q⟩ | ⟨hq, q⟩
    · obtain ⟨its, rv, p', hz⟩ := I1.list hq
      refine call_enumerate_list p'.isList fun h' he hit hsz hk => wpAny_pyIter_enum he ?_
      have I2 : Inv X pins σ H1 { s1 with heap := h' } := I1.kept (t' := s1.toks) hk
      exact ⟨s1.heap.objs.size + 1, [s1.heap.objs.size + 1, s1.heap.objs.size], _, _, H1, rfl, I2, turn_enum a (s1.heap.objs.size + 1) s1.heap.objs.size, ⟨⟨.none, he⟩, hit, Nat.succ_ne_self _⟩, fresh, q⟩
    · obtain ⟨its, rv, p', hz⟩ := I1.tuple hq
      obtain ⟨ot, ht, _⟩ := id p'
      have lt := Heap.lt_size ht
      refine call_enum1 (begins_tuple a its.toArray) p' fun h' he hit hsz hk => wpAny_pyIter_enum he ?_
      have I2 : Inv X pins σ H1 { s1 with heap := h' } := I1.kept (t' := s1.toks) hk
      refine ⟨s1.heap.objs.size + 1, [s1.heap.objs.size + 1, s1.heap.objs.size], _, _, H1, rfl, I2, turn_enumT a (s1.heap.objs.size + 1) s1.heap.objs.size, ⟨⟨.none, he⟩, ⟨_, hit, rfl, rfl⟩, Nat.succ_ne_self _, ?_, Nat.ne_of_lt lt⟩, fresh, q⟩
      exact Nat.ne_of_gt (Nat.lt_succ_of_lt lt)
end PLE
namespace PL
open PySem PySem.Spec PyProof.Rows L2
open Classical
/-! ### enumerate, zip on data -/
def pairsFrom : Nat → List D → List D
  | _, [] => []
  | k, d :: r => .tuple [.int (k : Nat), d] :: pairsFrom (k + 1) r
theorem pairsFrom_len : ∀ (k : Nat) (ds : List D), (pairsFrom k ds).length = ds.length
  | _, [] => rfl
  | k, _ :: r => congrArg (· + 1) (pairsFrom_len (k + 1) r)
theorem pairsFrom_get : ∀ (k : Nat) (ds : List D) (i : Nat), (pairsFrom k ds)[i]? = (ds[i]?).map fun d => .tuple [.int ((k + i : Nat) : Int), d]
  | _, [], i => by simp [pairsFrom]
  | k, d :: r, 0 => by simp [pairsFrom]
  | k, d :: r, i + 1 => by
    have := pairsFrom_get (k + 1) r i
    simp only [pairsFrom, List.getElem?_cons_succ, this]
    rw [show k + 1 + i = k + (i + 1) by omega]
section
variable {K : PySem.W.Frag} {G0 : Hp} {a c : Addr} {xs ys : List V} {ds es : List D}
theorem newPair {G H : Hp} {T : Addr} {v w : V} {d d' : D} (hs : ∀ a o, G a = some o → H a = some o) (hT : H T = none) (h1 : Dq K G v d) (h2 : Dq K G w d') : Stp none 0 G H (upd G T (.tup [v, w])) (upd H T (.tup [v, w])) ∧ Dq K (upd G T (.tup [v, w])) (.ref T) (.tuple [d, d']) := by
  have st := stNew (o := .tup [v, w]) hs hT
  exact ⟨st, .tup (.inl (.inl upd_same)) (.cons (Dq.mono st.fz h1) (.cons (Dq.mono st.fz h2) .nil))⟩
theorem yld_enumL (h : G0 a = some (.lst xs)) (hd : DqAll K G0 xs ds) : Yld K G0 (Ite K a) (pairsFrom 0 ds) := by
  intro G H i h1 h2
  have hH : SqL K H a xs := .inl (.inl (h2 _ _ (h1 _ _ h)))
  refine ⟨fun e => ⟨xs, hH, by rw [hd.length, e, pairsFrom_len]; exact Nat.le_refl _⟩, fun d e => ?_⟩
  rw [pairsFrom_get] at e
  cases q : ds[i]? with
  | none => rw [q] at e; cases e
  | some d0 =>
    rw [q] at e
    have ed : PyData.tuple [.int ((0 + i : Nat) : Int), d0] = d := Option.some.inj e
    subst ed
    obtain ⟨v, e1, q1⟩ := hd.get q
    refine ⟨⟨xs, v, hH, e1⟩, ?_⟩
    rintro x H' ⟨T, x', rfl, hT, rfl, f⟩
    have e2 := f xs hH
    rw [e1] at e2
    cases e2
    rw [Nat.zero_add]
    exact ⟨_, newPair h2 hT (.int _) (Dq.mono h1 q1)⟩
theorem yld_enumT (h : SqT K G0 a xs) (hd : DqAll K G0 xs ds) : Yld K G0 (PLE.IteT K a) (pairsFrom 0 ds) := by
  intro G H i h1 h2
  have hH : SqT K H a xs := SqT.over h2 (SqT.over h1 h)
  refine ⟨fun e => ⟨xs, hH, by rw [hd.length, e, pairsFrom_len]⟩, fun d e => ?_⟩
  rw [pairsFrom_get] at e
  cases q : ds[i]? with
  | none => rw [q] at e; cases e
  | some d0 =>
    rw [q] at e
    have ed : PyData.tuple [.int ((0 + i : Nat) : Int), d0] = d := Option.some.inj e
    subst ed
    obtain ⟨v, e1, q1⟩ := hd.get q
    refine ⟨⟨xs, v, hH, e1⟩, ?_⟩
    rintro x H' ⟨T, x', rfl, hT, rfl, f⟩
    have e2 := f xs hH
    rw [e1] at e2
    cases e2
    rw [Nat.zero_add]
    exact ⟨_, newPair h2 hT (.int _) (Dq.mono h1 q1)⟩
def zipD : List D → List D → List D
  | d :: r, e :: t => .tuple [d, e] :: zipD r t
  | _, _ => []
theorem zipD_get : ∀ (ds es : List D) (i : Nat) (d : D), (zipD ds es)[i]? = some d → ∃ x y, ds[i]? = some x ∧ es[i]? = some y ∧ d = .tuple [x, y]
  | [], es, i, d, h => by simp [zipD] at h
  | _ :: _, [], i, d, h => by simp [zipD] at h
  | x :: r, y :: t, 0, d, h => by simp [zipD] at h; exact ⟨x, y, rfl, rfl, h.symm⟩
  | x :: r, y :: t, i + 1, d, h => by
    have h' : (zipD r t)[i]? = some d := by simpa [zipD] using h
    obtain ⟨x', y', h1, h2, h3⟩ := zipD_get r t i d h'
    exact ⟨x', y', by simpa using h1, by simpa using h2, h3⟩
theorem zipD_len : ∀ (ds es : List D), (zipD ds es).length = min ds.length es.length
  | [], es => by simp [zipD]
  | _ :: _, [] => by simp [zipD]
  | x :: r, y :: t => by
    have := zipD_len r t
    simp only [zipD, List.length_cons, this]
    omega
theorem yld_zipL (h : G0 a = some (.lst xs)) (hd : DqAll K G0 xs ds) (h' : G0 c = some (.lst ys)) (hd' : DqAll K G0 ys es) : Yld K G0 (Itz K a c) (zipD ds es) := by
  intro G H i h1 h2
  have hH : SqL K H a xs := .inl (.inl (h2 _ _ (h1 _ _ h)))
  have hH' : SqL K H c ys := .inl (.inl (h2 _ _ (h1 _ _ h')))
  refine ⟨fun e => ⟨xs, ys, hH, hH', by rw [hd.length, hd'.length]; rw [zipD_len] at e; omega⟩, fun d e => ?_⟩
  obtain ⟨x0, y0, e1, e2, rfl⟩ := zipD_get _ _ _ _ e
  obtain ⟨v, v1, v2⟩ := hd.get e1
  obtain ⟨u, u1, u2⟩ := hd'.get e2
  refine ⟨⟨xs, ys, v, u, hH, hH', v1, u1⟩, ?_⟩
  rintro x H' ⟨T, x', y', rfl, hT, rfl, f1, f2⟩
  have z1 := f1 xs hH
  have z2 := f2 ys hH'
  rw [v1] at z1
  rw [u1] at z2
  cases z1
  cases z2
  exact ⟨_, newPair h2 hT (Dq.mono h1 v2) (Dq.mono h1 u2)⟩
theorem yld_zipT (h : SqT K G0 a xs) (hd : DqAll K G0 xs ds) (h' : SqT K G0 c ys) (hd' : DqAll K G0 ys es) : Yld K G0 (RZ.ItzT K a c) (zipD ds es) := by
  intro G H i h1 h2
  have hH : SqT K H a xs := SqT.over h2 (SqT.over h1 h)
  have hH' : SqT K H c ys := SqT.over h2 (SqT.over h1 h')
  refine ⟨fun e => ⟨xs, ys, hH, hH', by rw [hd.length, hd'.length]; rw [zipD_len] at e; omega⟩, fun d e => ?_⟩
  obtain ⟨x0, y0, e1, e2, rfl⟩ := zipD_get _ _ _ _ e
  obtain ⟨v, v1, v2⟩ := hd.get e1
  obtain ⟨u, u1, u2⟩ := hd'.get e2
  refine ⟨⟨xs, ys, v, u, hH, hH', v1, u1⟩, ?_⟩
  rintro x H' ⟨T, x', y', rfl, hT, rfl, f1, f2⟩
  have z1 := f1 xs hH
  have z2 := f2 ys hH'
  rw [v1] at z1
  rw [u1] at z2
  cases z1
  cases z2
  exact ⟨_, newPair h2 hT (Dq.mono h1 v2) (Dq.mono h1 u2)⟩
end
section
variable {X : Cx} {b : Bs}
/-- enumerate(xs), a list or a tuple -/
def iEnu (p : VT) : IT := fun n e Q => p n e fun n1 d => match d with
  | .list ds => Q n1 (pairsFrom 0 ds)
  | .tuple ds => Q n1 (pairsFrom 0 ds)
  | _ => False
theorem pit_enum {ex : Expr} {pa : VT} {p pos tpos : Pos} {elts : List Expr} {kk : Nat} (hm : X.mg "enumerate" = none) (ha : PV b X ex pa) (hg : Gl X "enumerate" := by rfl) (hs : starEach [ex] X.env = [(false, eval ex X.env)] := by rfl) :
    PIt b X (.Tuple elts kk tpos) (.Call (.Name "enumerate" p) [ex] [] pos) (iEnu pa) := by
  refine ⟨weakI (PLE.pi_enumA hg hm (pa_cons ha.pe pa_nil hs) hs) ?_⟩
  rintro σ H R ⟨F, e, n, Qp, Rl, h, k⟩
  refine liftV_of Rl h fun n1 d hq F1 H1 v R1 s1 q1 => ?_
  cases q1 with
  | lst a1 a2 => exact ⟨_, _, rfl, .inl ⟨.inl (.inl (R1.plusH _ _ a1)), k n1 _ hq F1 H1 _ s1 (yld_enumL a1 a2)⟩⟩
  | tup a1 a2 => exact ⟨_, _, rfl, .inr ⟨SqT.over R1.plusH a1, k n1 _ hq F1 H1 _ s1 (yld_enumT a1 a2)⟩⟩
  | _ => exact hq.elim
/-- zip(xs, ys), both lists or both tuples -/
def iZip2 (p q : VT) : IT := fun n e Q => p n e fun n1 d1 => q n1 e fun n2 d2 => match d1, d2 with
  | .list ds, .list es => Q n2 (zipD ds es)
  | .tuple ds, .tuple es => Q n2 (zipD ds es)
  | _, _ => False
theorem pit_zip {ex ey : Expr} {pa pc : VT} {p pos tpos : Pos} {elts : List Expr} {kk : Nat} (hm : X.mg "zip" = none) (ha : PV b X ex pa) (hc : PV b X ey pc) (hg : Gl X "zip" := by rfl) (hs : starEach [ex, ey] X.env = (false, eval ex X.env) :: starEach [ey] X.env := by rfl) (hs2 : starEach [ey] X.env = (false, eval ey X.env) :: starEach [] X.env := by rfl)
    (hpl : (backTo pos (starEach [ey] X.env)).any (·.1) = false := by rfl) : PIt b X (.Tuple elts kk tpos) (.Call (.Name "zip" p) [ex, ey] [] pos) (iZip2 pa pc) := by
  refine ⟨weakI (RZ.pi_zipA hg hm (pa_cons ha.pe (pa_cons hc.pe pa_nil hs2) hs) hs hpl) ?_⟩
  rintro σ H R ⟨F, e, n, Qp, Rl, h, k⟩
  refine liftV_of Rl h fun n1 d1 h1 F1 H1 v1 R1 s1 q1 => ?_
  refine liftV_of R1 h1 fun n2 d2 h2 F2 H2 v2 R2 s2 q2 => ?_
  have q1' := Dq.mono (R1.plus_mono s2) q1
  cases q1' with
  | lst a1 a2 =>
    cases q2 with
    | lst c1 c2 => exact ⟨_, _, _, _, rfl, .inl ⟨.inl (.inl (R2.plusH _ _ a1)), .inl (.inl (R2.plusH _ _ c1)), k n2 _ h2 F2 H2 _ (s1.trans s2) (yld_zipL a1 a2 c1 c2)⟩⟩
    | _ => exact h2.elim
  | tup a1 a2 =>
    cases q2 with
    | tup c1 c2 => exact ⟨_, _, _, _, rfl, .inr ⟨SqT.over R2.plusH a1, SqT.over R2.plusH c1, k n2 _ h2 F2 H2 _ (s1.trans s2) (yld_zipT a1 a2 c1 c2)⟩⟩
    | _ => exact h2.elim
  | _ => cases q2 <;> exact h2.elim
end
end PL

set_option Elab.async false
set_option linter.all false
set_option maxRecDepth 100000
set_option maxHeartbeats 4000000
/-! ## in, text methods, powers, the pot, the script -/
namespace PL
open PySem PySem.Spec PyProof.Rows L2
open Classical
section
variable {X : Cx} {b : Bs}
/-! ### in -/
def rInDT (K : PySem.W.Frag) : R2 := fun x y H Q => ∃ d ds, Dp K H x d ∧ Dp K H y (.tuple ds) ∧ SeqAt.shaped d = true ∧ SeqAt.shaped (.tuple ds) = true ∧ Q (.bl (ds.any fun z => PyData.eqv z d)) H
def rNotInDT (K : PySem.W.Frag) : R2 := fun x y H Q => ∃ d ds, Dp K H x d ∧ Dp K H y (.tuple ds) ∧ SeqAt.shaped d = true ∧ SeqAt.shaped (.tuple ds) = true ∧ Q (.bl (!ds.any fun z => PyData.eqv z d)) H
theorem op_inDT (hu : X.A.units + 65 < cLine) : OpR X (compareOp .In) (rInDT X.K) := by
  intro pins s σ H x y v u Q I rx ry h
  obtain ⟨d, ds, hd, he, sd, se, q⟩ := h
  obtain ⟨as, r1⟩ := Dp.reads I d x v hd rx
  obtain ⟨bs, r2⟩ := Dp.reads I (.tuple ds) y u he ry
  exact SeqAt.in_tuple_reads r2 r1 (SeqAt.canLay_of_shaped se) (SeqAt.canLay_of_shaped sd) (room_in_shaped sd hu) ⟨.bl _, H, I, rfl, q⟩
theorem op_notInDT (hu : X.A.units + 65 < cLine) : OpR X (compareOp .NotIn) (rNotInDT X.K) := by
  intro pins s σ H x y v u Q I rx ry h
  obtain ⟨d, ds, hd, he, sd, se, q⟩ := h
  obtain ⟨as, r1⟩ := Dp.reads I d x v hd rx
  obtain ⟨bs, r2⟩ := Dp.reads I (.tuple ds) y u he ry
  exact SeqAt.notIn_tuple_reads r2 r1 (SeqAt.canLay_of_shaped se) (SeqAt.canLay_of_shaped sd) (room_in_shaped sd hu) ⟨.bl _, H, I, rfl, q⟩
def oIn : D → D → (D → Prop) → Prop := fun d1 d2 Q => match d2 with
  | .str w => ∃ c, d1 = .str ⟨#[c]⟩ ∧ Q (.bool (decide (c ∈ w.cps.toList)))
  | .list es => SeqAt.shaped d1 = true ∧ SeqAt.shaped (.list es) = true ∧ Q (.bool (es.any fun z => PyData.eqv z d1))
  | .tuple es => SeqAt.shaped d1 = true ∧ SeqAt.shaped (.tuple es) = true ∧ Q (.bool (es.any fun z => PyData.eqv z d1))
  | _ => False
def oNotIn : D → D → (D → Prop) → Prop := fun d1 d2 Q => match d2 with
  | .str w => ∃ c, d1 = .str ⟨#[c]⟩ ∧ Q (.bool (!decide (c ∈ w.cps.toList)))
  | .list es => SeqAt.shaped d1 = true ∧ SeqAt.shaped (.list es) = true ∧ Q (.bool (!es.any fun z => PyData.eqv z d1))
  | .tuple es => SeqAt.shaped d1 = true ∧ SeqAt.shaped (.tuple es) = true ∧ Q (.bool (!es.any fun z => PyData.eqv z d1))
  | _ => False
def rInA (K : PySem.W.Frag) : R2 := fun x y H Q => rInS x y H Q ∨ (rInD K x y H Q ∨ rInDT K x y H Q)
def rNotInA (K : PySem.W.Frag) : R2 := fun x y H Q => rNotInS x y H Q ∨ (rNotInD K x y H Q ∨ rNotInDT K x y H Q)
theorem or_in (hu : X.A.units + 65 < cLine) : OpR X (compareOp .In) (rInA X.K) := op_inS.or ((op_inD hu).or (op_inDT hu))
theorem or_notin (hu : X.A.units + 65 < cLine) : OpR X (compareOp .NotIn) (rNotInA X.K) := op_notInS.or ((op_notInD hu).or (op_notInDT hu))
theorem opp_in {K : PySem.W.Frag} : OpP K (rInA K) oIn := by
  intro G H x y d1 d2 Qd Q hs h1 h2 h k
  cases h2 with
  | str w =>
    obtain ⟨c, rfl, q⟩ := h
    rw [h1.str_of]
    exact .inl ⟨c, w, rfl, rfl, k _ q G H _ (st0 hs) (.bl _)⟩
  | lst a1 a2 => exact .inr (.inl ⟨d1, _, h1.toDp hs, Dq.toDp hs (.lst a1 a2), h.1, h.2.1, k _ h.2.2 G H _ (st0 hs) (.bl _)⟩)
  | tup a1 a2 => exact .inr (.inr ⟨d1, _, h1.toDp hs, Dq.toDp hs (.tup a1 a2), h.1, h.2.1, k _ h.2.2 G H _ (st0 hs) (.bl _)⟩)
  | _ => exact h.elim
theorem opp_notin {K : PySem.W.Frag} : OpP K (rNotInA K) oNotIn := by
  intro G H x y d1 d2 Qd Q hs h1 h2 h k
  cases h2 with
  | str w =>
    obtain ⟨c, rfl, q⟩ := h
    rw [h1.str_of]
    exact .inl ⟨c, w, rfl, rfl, k _ q G H _ (st0 hs) (.bl _)⟩
  | lst a1 a2 => exact .inr (.inl ⟨d1, _, h1.toDp hs, Dq.toDp hs (.lst a1 a2), h.1, h.2.1, k _ h.2.2 G H _ (st0 hs) (.bl _)⟩)
  | tup a1 a2 => exact .inr (.inr ⟨d1, _, h1.toDp hs, Dq.toDp hs (.tup a1 a2), h.1, h.2.1, k _ h.2.2 G H _ (st0 hs) (.bl _)⟩)
  | _ => exact h.elim
/-! ### text methods of one argument -/
def M1P (K : PySem.W.Frag) (r : V → List V → Hp → VK → Prop) (o : Str → D → (D → Prop) → Prop) : Prop := ∀ (G H : Hp) (a : Str) (y : V) (d : D) (Qd : D → Prop) (Q : VK), (∀ a u, G a = some u → H a = some u) → Dq K G y d → o a d Qd →
  (∀ d, Qd d → ∀ G' H' v, Stp none 0 G H G' H' → Dq K G' v d → Q v H') → r (.str a) [y] H Q
def pM1 (o : Str → D → (D → Prop) → Prop) (pa pc : VT) : VT := fun n e Q => pa n e fun n1 d1 => ∃ a, d1 = .str a ∧ pc n1 e fun n2 d2 => o a d2 (Q n2)
theorem pv_m1 {ex : Expr} {r : V → List V → Hp → VK → Prop} {o : Str → D → (D → Prop) → Prop} {pa pc : VT} (h : PE X ex (tM1 r (liftV X.K b pa) (liftV X.K b pc))) (ho : M1P X.K r o) : PV b X ex (pM1 o pa pc) := by
  refine ⟨weakE h ?_⟩
  rintro σ H Q ⟨F, e, n, Qp, R, h, k⟩
  refine liftV_of R h fun n1 d1 ⟨a, ed, h1⟩ F1 H1 v1 R1 s1 q1 => ⟨⟨a, by subst ed; exact q1.str_of⟩, ?_⟩
  subst ed
  refine liftV_of R1 h1 fun n2 d2 h2 F2 H2 v2 R2 s2 q2 => ?_
  rw [q1.str_of]
  exact ho _ _ _ _ _ _ _ R2.plusH q2 h2 (R2.behind fun d q F' H' v st dv => k n2 d q F' H' v ((s1.trans s2).trans st) dv)
def oSplit : Str → D → (D → Prop) → Prop := fun a d Q => ∃ c : Str, d = .str c ∧ (c.length == 0) = false ∧ a.length + 2 ≤ sizeLine ∧ Q (.list ((Txt.split a c).map PyData.str))
theorem pv_split {o e : Expr} {pa pc : VT} {apos pos : Pos} (ha : PV b X o pa) (hc : PV b X e pc) (hs : starEach [e] X.env = [(false, eval e X.env)] := by rfl) (hbase : attributeBase o "split" X.env (eval o X.env) = eval o X.env := by rfl) (hline : (apos.endLine == pos.line) = true := by rfl) :
    PV b X (.Call (.Attribute o "split" apos) [e] [] pos) (pM1 oSplit pa pc) := by
  refine pv_m1 (pe_split ha.pe hc.pe hs hbase hline) ?_
  rintro G H a y d Qd Q hs hy ⟨c, rfl, h1, h2, h⟩ k
  rw [hy.str_of]
  exact ⟨a, c, rfl, rfl, h1, h2, fun p hp => k _ h _ _ _ (stNew hs hp) (.lst upd_same (DqAll.ofStrs _))⟩
def oJoin : Str → D → (D → Prop) → Prop := fun a d Q => ∃ ys : List Str, (d = .list (ys.map PyData.str) ∨ d = .tuple (ys.map PyData.str)) ∧ (ys.map (·.length)).sum + ys.length * a.length ≤ 16777216 ∧ Q (.str (Txt.join a ys))
theorem pv_join {o e : Expr} {pa pc : VT} {apos pos : Pos} (ha : PV b X o pa) (hc : PV b X e pc) (hs : starEach [e] X.env = [(false, eval e X.env)] := by rfl) (hbase : attributeBase o "join" X.env (eval o X.env) = eval o X.env := by rfl) (hline : (apos.endLine == pos.line) = true := by rfl) :
    PV b X (.Call (.Attribute o "join" apos) [e] [] pos) (pM1 oJoin pa pc) := by
  refine pv_m1 (pe_join ha.pe hc.pe hs hbase hline) ?_
  rintro G H a y d Qd Q hs hy ⟨ys, ed, h1, h⟩ k
  rcases ed with rfl | rfl
  · obtain ⟨p, zs, rfl, g, dz⟩ := hy.list_of
    have e := dz.strs
    subst e
    exact ⟨a, p, ys, rfl, rfl, .inl (.inl (.inl (hs _ _ g))), h1, k _ h G H _ (st0 hs) (.str _)⟩
  · obtain ⟨p, zs, rfl, g, dz⟩ := hy.tup_of
    have e := dz.strs
    subst e
    exact ⟨a, p, ys, rfl, rfl, .inr (SqT.over hs g), h1, k _ h G H _ (st0 hs) (.str _)⟩
/-! ### text * number, powers -/
def repS (z : Str) (k : Nat) : Str := ⟨(List.replicate k z.cps).foldl (· ++ ·) #[]⟩
def rRepS : R2 := fun x y H Q => ∃ (z : Str) (k : Nat), x = .str z ∧ y = .int k ∧ 2 ≤ k ∧ z.length ≠ 0 ∧ z.length * k ≤ sizeLine ∧ (repS z k).length ≤ sizeLine ∧ Q (.str (repS z k)) H
theorem or_repS : OpR X (binaryOp .Mult) rRepS := by
  intro pins s σ H x y v u Q I rx ry h
  obtain ⟨z, k, rfl, rfl, hk, hz, hl, hl2, q⟩ := h
  obtain ⟨t, rfl⟩ := rx
  obtain ⟨t', rfl⟩ := ry
  have n1 : ¬ ((k : Int) < 1) := by omega
  have e1 : (((k : Int) == 1) || z.length == 0) = false := by
    rw [Bool.or_eq_false_iff]
    exact ⟨by simpa using (by omega : ¬ (k : Int) = 1), by simpa using hz⟩
  have kl : k ≤ sizeLine := by
    have : 1 * k ≤ z.length * k := Nat.mul_le_mul_right k (Nat.one_le_iff_ne_zero.mpr hz)
    omega
  have sl : sizeLine < 2 ^ 63 := by decide
  refine P.mul_str ?_ (fun _ _ => ?_) (fun _ _ => ?_) ?_
  · rw [decide_eq_false (by omega), decide_eq_false (by omega)]; rfl
  · intro hgt
    have h8 : (sizeLine : Int) ≤ 2 ^ 63 - 1 := by decide
    have : (z.length : Int) * (k : Int) ≤ 2 ^ 63 - 1 := by
      have : ((z.length * k : Nat) : Int) ≤ (sizeLine : Nat) := by exact_mod_cast hl
      rw [Int.natCast_mul] at this
      omega
    have := (Int.le_ediv_iff_mul_le (by omega : (0 : Int) < k)).mpr this
    omega
  · unfold Builtin.Str.tooLong
    rw [Int.toNat_natCast]
    exact decide_eq_false (by omega)
  · rw [if_neg n1, e1, if_neg Bool.false_ne_true, Int.toNat_natCast]
    exact ⟨hl2, .str (repS z k), H, I.tok _, ⟨_, rfl⟩, q⟩
def oRepS : D → D → (D → Prop) → Prop := fun d1 d2 Q => match d1, d2 with
  | .str z, .int i => ∃ k : Nat, i = k ∧ 2 ≤ k ∧ z.length ≠ 0 ∧ z.length * k ≤ sizeLine ∧ (repS z k).length ≤ sizeLine ∧ Q (.str (repS z k))
  | _, _ => False
theorem opp_repS {K : PySem.W.Frag} : OpP K rRepS oRepS := by
  intro G H x y d1 d2 Qd Q hs h1 h2 h k
  cases h1 <;> cases h2 <;> first | exact h.elim | skip
  obtain ⟨m, rfl, g1, g2, g3, g4, q⟩ := h
  exact ⟨_, m, rfl, rfl, g1, g2, g3, g4, k _ q G H _ (st0 hs) (.str _)⟩
def CPowB (i j : Int) : Prop := 0 ≤ j ∧ (Builtin.Int.intBits i : Int) * j ≤ 2 ^ 27
def oPowB : D → D → (D → Prop) → Prop := fun d1 d2 Q => match d1, d2 with | .int i, .int j => CPowB i j ∧ Q (.int (i ^ j.toNat)) | _, _ => False
theorem or_powB : OpR X (binaryOp .Pow) (rI CPowB fun i j => .int (i ^ j.toNat)) := opI fun _ _ _ _ _ _ _ hc q => pow_int hc.1 hc.2 q
theorem opp_powB {K : PySem.W.Frag} : OpP K (rI CPowB fun i j => .int (i ^ j.toNat)) oPowB := opp_I
/-! ### the pot -/
theorem Rel.atPot {F H : Hp} {σ : L2.St} {e : En} {n i : Nat} {K : PySem.W.Frag} (R : Rel K b F H σ e n) (h : e[i]? = some .pot) : ∃ p x y z, σ[i]? = some (some (.ref p)) ∧ b.pt = some p ∧ F p = none ∧ H p = some (.lst [.int x, .int y, .int z]) ∧ 0 ≤ x ∧ x < 10 ^ 300 ∧ 0 ≤ y ∧ y < 2305843009213693921 ∧ 0 ≤ z ∧ z ≤ n := by
  obtain ⟨v, h1, h2⟩ := R.slot i _ h
  cases v with
  | none => exact h2.elim
  | some v =>
    obtain ⟨p, hp, rfl⟩ := h2
    obtain ⟨g1, x, y, z, g2, g3⟩ := R.pot p hp
    exact ⟨p, x, y, z, h1, hp, g1, g2, g3⟩
def pPot0 (i : Nat) : VT := fun n e Q => e[i]? = some .pot ∧ ∀ x : Int, 0 ≤ x → x < 10 ^ 300 → Q n (.int x)
def pPot1 (i : Nat) : VT := fun n e Q => e[i]? = some .pot ∧ ∀ x : Int, 0 ≤ x → x < 2305843009213693921 → Q n (.int x)
def pPot2 (i : Nat) : VT := fun n e Q => e[i]? = some .pot ∧ ∀ x : Int, 0 ≤ x → x ≤ n → Q n (.int x)
theorem pot_ix {i : Nat} {x : Str} {c : Int} {k : Nat} {p1 p2 pos : Pos} (hN : X.N[i]? = some x) (hv : Vis X.env.scope x) (hd : (x == ("__debug__" : Str)) = false)
    (hcd : (x == ("__classdict__" : Str)) = false) : PE X (.Subscript (.Name x p1) (.Constant (.int c) k p2) pos) (tOp (rIxL X.K) (tVar i) (tC (.int c))) := pe_ix ix_list (pe_var hN hv hd hcd) pe_int fun _ _ => rfl
section
variable {i : Nat} {x : Str} {k : Nat} {p1 p2 pos : Pos}
theorem pv_pot0 (hN : X.N[i]? = some x := by rfl) (hv : Vis X.env.scope x := by first | exact Or.inl rfl | exact Or.inr (Or.inl rfl) | exact Or.inr (Or.inr rfl)) (hd : (x == ("__debug__" : Str)) = false := by decide)
    (hcd : (x == ("__classdict__" : Str)) = false := by decide) : PV b X (.Subscript (.Name x p1) (.Constant (.int 0) k p2) pos) (pPot0 i) := by
  refine ⟨weakE (pot_ix hN hv hd hcd) ?_⟩
  rintro σ H Q ⟨F, e, n, Qp, R, ⟨h, q⟩, kk⟩
  obtain ⟨p, x, y, z, g1, g2, g3, g4, b1, b2, b3, b4, b5, b6⟩ := R.atPot h
  exact ⟨_, g1, p, _, 0, _, rfl, rfl, .inl (.inl g4), rfl, kk n _ (q x b1 b2) F H _ R.refl (.int _)⟩
theorem pv_pot1 (hN : X.N[i]? = some x := by rfl) (hv : Vis X.env.scope x := by first | exact Or.inl rfl | exact Or.inr (Or.inl rfl) | exact Or.inr (Or.inr rfl)) (hd : (x == ("__debug__" : Str)) = false := by decide)
    (hcd : (x == ("__classdict__" : Str)) = false := by decide) : PV b X (.Subscript (.Name x p1) (.Constant (.int 1) k p2) pos) (pPot1 i) := by
  refine ⟨weakE (pot_ix hN hv hd hcd) ?_⟩
  rintro σ H Q ⟨F, e, n, Qp, R, ⟨h, q⟩, kk⟩
  obtain ⟨p, x, y, z, g1, g2, g3, g4, b1, b2, b3, b4, b5, b6⟩ := R.atPot h
  exact ⟨_, g1, p, _, 1, _, rfl, rfl, .inl (.inl g4), rfl, kk n _ (q y b3 b4) F H _ R.refl (.int _)⟩
theorem pv_pot2 (hN : X.N[i]? = some x := by rfl) (hv : Vis X.env.scope x := by first | exact Or.inl rfl | exact Or.inr (Or.inl rfl) | exact Or.inr (Or.inr rfl)) (hd : (x == ("__debug__" : Str)) = false := by decide)
    (hcd : (x == ("__classdict__" : Str)) = false := by decide) : PV b X (.Subscript (.Name x p1) (.Constant (.int 2) k p2) pos) (pPot2 i) := by
  refine ⟨weakE (pot_ix hN hv hd hcd) ?_⟩
  rintro σ H Q ⟨F, e, n, Qp, R, ⟨h, q⟩, kk⟩
  obtain ⟨p, x, y, z, g1, g2, g3, g4, b1, b2, b3, b4, b5, b6⟩ := R.atPot h
  exact ⟨_, g1, p, _, 2, _, rfl, rfl, .inl (.inl g4), rfl, kk n _ (q z b5 b6) F H _ R.refl (.int _)⟩
/-- the pot is written -/
theorem Rel.toPot {F H : Hp} {σ : L2.St} {e : En} {n n' : Nat} {K : PySem.W.Frag} (R : Rel K b F H σ e n) {p : Addr} {x y z : Int} (hp : b.pt = some p) (b1 : 0 ≤ x) (b2 : x < 10 ^ 300) (b3 : 0 ≤ y) (b4 : y < 2305843009213693921) (b5 : 0 ≤ z) (b6 : z ≤ n') :
    Stp b.pt n' F H F (L2.upd H p (.lst [.int x, .int y, .int z])) := by
  have fp := (R.pot p hp).1
  refine ⟨fun _ _ q => q, fun a o q => ?_, fun a o hne q => ?_, fun a q => .inl q, fun q hq => ?_⟩
  · rw [upd_ne (ne_of_none q fp)]; exact R.sub a o q
  · rw [upd_ne (fun z => hne (by rw [z]; exact hp))]; exact q
  · rw [hp] at hq
    cases hq
    exact ⟨fp, x, y, z, upd_same, b1, b2, b3, b4, b5, b6⟩
def sPot0 (i : Nat) (p : VT) : ST := fun W n e => e[i]? = some .pot ∧ p n e fun n1 d => ∃ x, d = .int x ∧ 0 ≤ x ∧ x < 10 ^ 300 ∧ W.nx n1 e
def sPot2 (i : Nat) (p : VT) : ST := fun W n e => e[i]? = some .pot ∧ p n e fun n1 d => ∃ (z : Int) (n' : Nat), d = .int z ∧ 0 ≤ z ∧ z ≤ n' ∧ W.nx n' e
theorem pg_pot {c : Int} (hN : X.N[i]? = some x) (hv : Vis X.env.scope x) (hd : (x == ("__debug__" : Str)) = false) (hcd : (x == ("__classdict__" : Str)) = false)
    (ha : ∀ v, assign (.Subscript (.Name x p1) (.Constant (.int c) k p2) pos) X.env v = (do
      let ov ← holding [v] (eval (.Name x p1) X.env)
      let iv ← holding [v, ov] (eval (.Constant (.int c) k p2) X.env)
      standAt pos
      holding [v, ov, iv] (setItem ov iv v)
      release [v, ov, iv] [])) : PG X (.Subscript (.Name x p1) (.Constant (.int c) k p2) pos) (gSub (tVar i) (tC (.int c)) rSetL) := pg_sub (pe_var hN hv hd hcd) pe_int set_list ha
theorem ps_pot0 {ex : Expr} {pa : VT} {p3 : Pos} (hv' : PV b X ex pa) (hN : X.N[i]? = some x := by rfl) (hv : Vis X.env.scope x := by first | exact Or.inl rfl | exact Or.inr (Or.inl rfl) | exact Or.inr (Or.inr rfl)) (hd : (x == ("__debug__" : Str)) = false := by decide)
    (hcd : (x == ("__classdict__" : Str)) = false := by decide)
    (ha : ∀ v, assign (.Subscript (.Name x p1) (.Constant (.int 0) k p2) pos) X.env v = (do
      let ov ← holding [v] (eval (.Name x p1) X.env)
      let iv ← holding [v, ov] (eval (.Constant (.int 0) k p2) X.env)
      standAt pos
      holding [v, ov, iv] (setItem ov iv v)
      release [v, ov, iv] []) := by intro _; rfl)
    (hs : swapsWithSole [.Subscript (.Name x p1) (.Constant (.int 0) k p2) pos] ex p3.line X.env = pure false := by rfl) (hw : swappedStores [.Subscript (.Name x p1) (.Constant (.int 0) k p2) pos] ex X.env = pure none := by rfl)
    (h1 : (assignEach [.Subscript (.Name x p1) (.Constant (.int 0) k p2) pos] X.env).map (·.2) = [assign (.Subscript (.Name x p1) (.Constant (.int 0) k p2) pos) X.env] := by rfl) :
    Ps b X (.Assign [.Subscript (.Name x p1) (.Constant (.int 0) k p2) pos] ex p3) (sPot0 i pa) := by
  refine ⟨weakS (ps_asg hv'.pe (pg_pot hN hv hd hcd ha) hs hw h1) ?_⟩
  rintro D σ H ⟨F, e, n, W, R, ⟨hi, h⟩, k1, k2, k3, k4⟩
  refine liftV_of R h fun n1 d ⟨v, ed, c1, c2, q⟩ F1 H1 w R1 s1 q1 => ?_
  subst ed
  obtain ⟨p, x, y, z, g1, g2, g3, g4, b1, b2, b3, b4, b5, b6⟩ := R1.atPot hi
  refine ⟨_, g1, p, _, 0, 0, rfl, rfl, g4, rfl, ?_⟩
  rw [q1.int_of]
  have st := R1.toPot g2 c1 c2 b3 b4 b5 b6
  exact k1 n1 e q F1 _ σ (R1.step st) s1.fz
theorem ps_pot2 {ex : Expr} {pa : VT} {p3 : Pos} (hv' : PV b X ex pa) (hN : X.N[i]? = some x := by rfl) (hv : Vis X.env.scope x := by first | exact Or.inl rfl | exact Or.inr (Or.inl rfl) | exact Or.inr (Or.inr rfl)) (hd : (x == ("__debug__" : Str)) = false := by decide)
    (hcd : (x == ("__classdict__" : Str)) = false := by decide)
    (ha : ∀ v, assign (.Subscript (.Name x p1) (.Constant (.int 2) k p2) pos) X.env v = (do
      let ov ← holding [v] (eval (.Name x p1) X.env)
      let iv ← holding [v, ov] (eval (.Constant (.int 2) k p2) X.env)
      standAt pos
      holding [v, ov, iv] (setItem ov iv v)
      release [v, ov, iv] []) := by intro _; rfl)
    (hs : swapsWithSole [.Subscript (.Name x p1) (.Constant (.int 2) k p2) pos] ex p3.line X.env = pure false := by rfl) (hw : swappedStores [.Subscript (.Name x p1) (.Constant (.int 2) k p2) pos] ex X.env = pure none := by rfl)
    (h1 : (assignEach [.Subscript (.Name x p1) (.Constant (.int 2) k p2) pos] X.env).map (·.2) = [assign (.Subscript (.Name x p1) (.Constant (.int 2) k p2) pos) X.env] := by rfl) :
    Ps b X (.Assign [.Subscript (.Name x p1) (.Constant (.int 2) k p2) pos] ex p3) (sPot2 i pa) := by
  refine ⟨weakS (ps_asg hv'.pe (pg_pot hN hv hd hcd ha) hs hw h1) ?_⟩
  rintro D σ H ⟨F, e, n, W, R, ⟨hi, h⟩, k1, k2, k3, k4⟩
  refine liftV_of R h fun n1 d ⟨v, n', ed, c1, c2, q⟩ F1 H1 w R1 s1 q1 => ?_
  subst ed
  obtain ⟨p, x, y, z, g1, g2, g3, g4, b1, b2, b3, b4, b5, b6⟩ := R1.atPot hi
  refine ⟨_, g1, p, _, 2, 2, rfl, rfl, g4, rfl, ?_⟩
  rw [q1.int_of]
  have st := R1.toPot g2 b1 b2 b3 b4 c1 c2
  exact k1 n' e q F1 _ σ (R1.step st) s1.fz
end
end
end PL

set_option Elab.async false
set_option linter.all false
set_option maxRecDepth 100000
set_option maxHeartbeats 4000000
/-! ## The script, the making of the pot, the law's head -/
namespace PL
open PySem PySem.Spec PyProof.Rows L2
open Classical
section
variable {K : PySem.W.Frag} {b : Bs} {F H : Hp} {σ : L2.St} {e : En} {n : Nat}
theorem Rel.seqAt (R : Rel K b F H σ e n) {a : Addr} {xs : List V} (h : SqL K b.H0 a xs) (hp : b.pt ≠ some a) : SqL K H a xs := by
  rcases h with (h | ⟨o, h⟩) | h
  · exact .inl (.inl (R.base.keep _ _ hp h))
  · exact .inl (.inr ⟨o, R.base.keep _ _ hp h⟩)
  · exact .inr h
end
section
variable {X : Cx} {b : Bs} {a : Addr} {ns : List Int}
/-! ### the script: len(script), script[place], script[:1] -/
theorem ints_data {K : PySem.W.Frag} {G : Hp} : ∀ (ns : List Int), DqAll K G (ns.map V.int) (ns.map PyData.int)
  | [] => .nil
  | n :: ns => .cons (.int n) (ints_data ns)
def pKnLen (i : Nat) (a : Addr) (ns : List Int) : VT := fun n e Q => e[i]? = some (.kn (.ref a)) ∧ Q n (.int ns.length)
theorem pv_knLen {i : Nat} {x : Str} {p1 p2 pos : Pos} (hS : SqL X.K b.H0 a (ns.map V.int)) (hp : b.pt ≠ some a) (hm : X.mg "len" = none) (hN : X.N[i]? = some x := by rfl) (hv : Vis X.env.scope x := by first | exact Or.inl rfl | exact Or.inr (Or.inl rfl) | exact Or.inr (Or.inr rfl)) (hd : (x == ("__debug__" : Str)) = false := by decide)
    (hcd : (x == ("__classdict__" : Str)) = false := by decide) (hg : Gl X "len" := by rfl) (he : starEach [.Name x p2] X.env = (false, eval (.Name x p2) X.env) :: starEach [] X.env := by rfl) (hpl : (backTo pos (starEach [] X.env)).any (·.1) = false := by rfl) :
    PV b X (.Call (.Name "len" p1) [.Name x p2] [] pos) (pKnLen i a ns) := by
  refine ⟨weakE (pe_callB cr_len hg hm PySem.boot_len (pa_cons (pe_var hN hv hd hcd) pa_nil he) (by decide) (by decide) he hpl) ?_⟩
  rintro σ H Q ⟨F, e, n, Qp, R, ⟨hi, h⟩, k⟩
  obtain ⟨v, h1, h2⟩ := R.slot i _ hi
  cases v with
  | none => exact h2.elim
  | some v =>
  have ev : v = .ref a := h2
  subst ev
  refine ⟨_, h1, .inl ⟨a, _, rfl, .inl (R.seqAt hS hp), ?_⟩⟩
  rw [List.length_map]
  exact k n _ h F H _ R.refl (.int _)
def pKnIx (i : Nat) (a : Addr) (ns : List Int) (p : VT) : VT := fun n e Q => e[i]? = some (.kn (.ref a)) ∧ p n e fun n1 d => ∃ k : Nat, d = .int k ∧ ∃ z, ns[k]? = some z ∧ Q n1 (.int z)
theorem pv_knIx {i : Nat} {x : Str} {p1 pos : Pos} {ix : Expr} {pi : VT} (hS : SqL X.K b.H0 a (ns.map V.int)) (hp : b.pt ≠ some a) (hix : PV b X ix pi) (hN : X.N[i]? = some x := by rfl) (hv : Vis X.env.scope x := by first | exact Or.inl rfl | exact Or.inr (Or.inl rfl) | exact Or.inr (Or.inr rfl)) (hd : (x == ("__debug__" : Str)) = false := by decide)
    (hcd : (x == ("__classdict__" : Str)) = false := by decide) (hs : PlainIx ix := by exact fun _ _ => rfl) : PV b X (.Subscript (.Name x p1) ix pos) (pKnIx i a ns pi) := by
  refine ⟨weakE (pe_ix ix_list (pe_var hN hv hd hcd) hix.pe hs) ?_⟩
  rintro σ H Q ⟨F, e, n, Qp, R, ⟨hi, h⟩, k⟩
  obtain ⟨v, h1, h2⟩ := R.slot i _ hi
  cases v with
  | none => exact h2.elim
  | some v =>
  have ev : v = .ref a := h2
  subst ev
  refine ⟨_, h1, ?_⟩
  refine liftV_of R h fun n1 d ⟨m, ed, z, hz, q⟩ F1 H1 w R1 s1 q1 => ?_
  subst ed
  refine ⟨a, ns.map V.int, m, .int z, rfl, q1.int_of, R1.seqAt hS hp, atI_nat (by rw [List.getElem?_map, hz]; rfl), k n1 _ q F1 H1 _ s1 (.int _)⟩
def pKnSl (i : Nat) (a : Addr) (ns : List Int) (lo hi : NT) : VT := fun n e Q => e[i]? = some (.kn (.ref a)) ∧ lo n e fun n1 l => hi n1 e fun n2 h => Q n2 (.list (cut (ns.map PyData.int) l h))
theorem pv_knSl {i : Nat} {x : Str} {p1 p2 pos : Pos} {lo hi : Option Expr} {l u : NT} (hS : SqL X.K b.H0 a (ns.map V.int)) (hp : b.pt ≠ some a) (hl : PN b X lo l) (hu : PN b X hi u) (hN : X.N[i]? = some x := by rfl) (hv : Vis X.env.scope x := by first | exact Or.inl rfl | exact Or.inr (Or.inl rfl) | exact Or.inr (Or.inr rfl)) (hd : (x == ("__debug__" : Str)) = false := by decide)
    (hcd : (x == ("__classdict__" : Str)) = false := by decide) : PV b X (.Subscript (.Name x p1) (.Slice lo hi none p2) pos) (pKnSl i a ns l u) := by
  refine ⟨weakE (pe_slice sl_list (pe_var hN hv hd hcd) hl.po hu.po) ?_⟩
  rintro σ H Q ⟨F, e, n, Qp, R, ⟨hi, h⟩, k⟩
  obtain ⟨v, h1, h2⟩ := R.slot i _ hi
  cases v with
  | none => exact h2.elim
  | some v =>
  have ev : v = .ref a := h2
  subst ev
  refine ⟨_, h1, F, e, n, _, R, h, fun n2 i1 h2 F2 H2 s2 => ?_⟩
  have R2 := R.step s2
  refine ⟨F2, e, n2, _, R2, h2, fun n3 i2 h3 F3 H3 s3 => ?_⟩
  have R3 := R2.step s3
  refine ⟨a, _, rfl, R3.seqAt hS hp, fun p hp => ?_⟩
  have st := R3.lay (o := .lst (cutV (ns.map V.int) i1 i2)) hp
  exact k n3 _ h3 _ _ _ ((s2.trans s3).trans st) (.lst (R3.plus_lay hp) (cut_data (ints_data ns)))
end
/-! ### defs whose first parameter is the script -/
def spS (K : PySem.W.Frag) (k : Nat) (Φ : List Int → FT) : Sp := fun vs H Q _ => ∃ F ds Qp a ws ns, vs = .ref a :: ws ∧ ds.length = k ∧ (∀ a o, F a = some o → H a = some o) ∧ SqL K H a (ns.map V.int) ∧ DqAll K F ws ds ∧ Φ ns ds Qp ∧
  ∀ r, Qp r → ∀ F' H' v, Ret K ⟨F, H, none⟩ F' H' v r 0 → Q v H'
section
variable {P : Program} {w : World} {K : PySem.W.Frag} {mg : Str → Option Value} {base : Heap} {CX : CXT}
theorem fnS {x qual : Str} {st : Stmt} {f : Addr} {fd : FuncData} {N ps : List Str} {k j : Nat} {Φ : List Int → FT} {p : Addr → List Int → ST} (Fn : Fun K x qual st f fd) (S : FnScope N ps (defScope st)) (hj : ps.length = j + 1)
    (body : ∀ (b : Bs) (a : Addr) (ns : List Int) (cdv : Value) (A : Around) (outer : List Env) (s : Shared) (H : Hp) (E : XK), b.pt = none → SqL K b.H0 a (ns.map V.int) → Room k (A.deeper (envOfC qual (defScope st) s.heap.objs.size f cdv)) → A.guards = some [] → Pss b (cxOf CX P w K mg base N qual (defScope st) f cdv A outer s H E) (defBody st) (p a ns))
    (hp : ∀ (a : Addr) (ns : List Int) (ds : List D) (Q : Rv → Prop), ds.length = j → Φ ns ds Q → p a ns { nx := fun _ _ => Q (.val .none), rt := fun _ r => Q r } 0 (fill N (.kn (.ref a) :: ds.map Sl.val))) : FnG P w K mg base CX (k + 1) f fd ps (spS K j Φ) := by
  refine fnG Fn S (fun vs H Q E h => ?_) fun cdv A outer s H vs Q E hr hg h => ?_
  · obtain ⟨F, ds, Qp, a, ws, ns, rfl, h1, _, _, h2, _⟩ := h
    rw [List.length_cons, h2.length, h1, hj]
  obtain ⟨F, ds, Qp, a, ws, ns, rfl, hl, hs, hS, hd, hΦ, hQ⟩ := h
  refine ⟨_, (body ⟨F, H, none⟩ a ns cdv A outer s H E rfl hS hr hg).ps, ?_⟩
  refine ⟨F, _, 0, { nx := fun _ _ => Qp (.val .none), rt := fun _ r => Qp r }, Rel.start hs none0 (.cons (s := .kn (.ref a)) rfl (fun _ z => by cases z) (ent_vals hd)), ?_, ?_, ?_, ?_, ?_⟩
  · have := hp a ns ds Qp hl hΦ
    unfold fill at this
    rw [List.length_cons, List.length_map] at this
    rw [List.length_cons, hd.length]
    exact this
  · intro n' e' q F' H' σ' R' up
    exact hQ _ q F' H' _ ⟨R'.base.any, .non⟩
  · intro n' r q F' H' v rt
    exact hQ r q F' H' v ⟨rt.1.any, rt.2⟩
  · intro _ _ q; exact q.elim
  · intro _ _ q; exact q.elim
end
section
variable {X : Cx} {b : Bs} {CX : CXT} {k j : Nat} {f : Addr} {fd : FuncData} {ps : List Str} {x : Str} {p pos : Pos} {es : List Expr} {Φ : List Int → FT} {pa : AT} {a : Addr} {ns : List Int}
def rCallS (i : Nat) (a : Addr) (ns : List Int) (Φ : List Int → FT) (j : Nat) (pa : AT) : RT := fun n e Q => e[i]? = some (.kn (.ref a)) ∧ pa n e fun n1 ds => ds.length = j ∧ Φ ns ds fun r => Q n1 r
theorem pr_callS {i : Nat} {y : Str} {py : Pos} (hS : SqL X.K b.H0 a (ns.map V.int)) (hpt : b.pt ≠ some a) (F : FnG X.prog X.w X.K X.mg X.base CX k f fd ps (spS X.K j Φ)) (hr : Room k X.A) (hgd : X.A.guards = some []) (hm : X.mg x = some (.ref f)) (hk : PySem.W.keepIn X.K (.ref f) = true) (hb : Binds X.K fd ps []) (hx : ∀ E, Passes CX X E)
    (ha : PAs b X es pa) (hN : X.N[i]? = some y := by rfl) (hv : Vis X.env.scope y := by first | exact Or.inl rfl | exact Or.inr (Or.inl rfl) | exact Or.inr (Or.inr rfl)) (hd : (y == ("__debug__" : Str)) = false := by decide)
    (hcd : (y == ("__classdict__" : Str)) = false := by decide) (hg : Gl X x := by rfl) (hdb : (x == ("__debug__" : Str)) = false := by decide) (he : starEach (.Name y py :: es) X.env = (false, eval (.Name y py) X.env) :: starEach es X.env := by rfl) (hpl : (backTo pos (starEach es X.env)).any (·.1) = false := by rfl) :
    PR b X (.Call (.Name x p) (.Name y py :: es) [] pos) (rCallS i a ns Φ j pa) := by
  refine ⟨weakE (pe_callG F hr hgd hg hm hk hb (hx fun _ _ _ => False) (pa_cons (pe_var hN hv hd hcd) ha.pa he) hdb he hpl) ?_⟩
  rintro σ H Q ⟨F, en, n, Qp, R, ⟨hi, h⟩, k⟩
  obtain ⟨v, h1, h2⟩ := R.slot i _ hi
  cases v with
  | none => exact h2.elim
  | some v =>
  have ev : v = .ref a := h2
  subst ev
  refine ⟨_, h1, ?_⟩
  refine liftA_of R h fun n1 ds ⟨hl, hq⟩ F1 H1 vs R1 s1 q1 => ?_
  refine ⟨_, ds, _, a, vs, ns, rfl, hl, R1.plusH, R1.seqAt hS hpt, q1, hq, fun r q F' H' v rt => ?_⟩
  obtain ⟨F2, s2, q2⟩ := R1.called (n' := n1) (⟨rt.1.any, rt.2⟩ : Ret X.K ⟨plus F1 H1 σ en, H1, none⟩ F' H' v r n1) (.inr ⟨rfl, rfl⟩)
  exact k n1 r q F2 H' v (s1.trans s2) (q2.back R s1)
/-! ### the pot is made -/
def unp1 : Sl → Sl
  | .pot => .un
  | s => s
def unp (e : En) : En := e.map unp1
def sMk (i : Nat) (p : RT) (q : ST) : ST := fun W n e => p n e fun _ r => ∃ x y : Int, r = .own [.int x, .int y, .int 0] ∧ 0 ≤ x ∧ x < 10 ^ 300 ∧ 0 ≤ y ∧ y < 2305843009213693921 ∧
  q { nx := fun _ e' => W.nx 0 (unp e'), rt := fun _ r => W.rt 0 r, bk := fun _ e' => W.bk 0 (unp e'), ct := fun _ e' => W.ct 0 (unp e') } 0 (e.set i .pot)
theorem Rel.unpot {K : PySem.W.Frag} {F H F0 H0 : Hp} {σ : L2.St} {e : En} {n : Nat} {c : Addr} (R : Rel K ⟨F0, H0, some c⟩ F H σ e n) (h0 : H0 c = none) : Rel K ⟨F0, H0, none⟩ F H σ (unp e) 0 := by
  have back : ∀ (i : Nat) (s : Sl), (unp e)[i]? = some s → ∃ s0, e[i]? = some s0 ∧ unp1 s0 = s := fun i s q => by
    unfold unp at q
    rw [List.getElem?_map] at q
    cases z : e[i]? with
    | none => rw [z] at q; cases q
    | some s0 => rw [z] at q; exact ⟨s0, rfl, Option.some.inj q⟩
  refine ⟨by unfold unp; rw [List.length_map]; exact R.len, ⟨R.base.fz, R.base.sub, fun a o _ q => ?_, R.base.new, none0⟩, fun i s q => ?_, fun i j d1 d2 a q1 q2 h1 h2 => ?_⟩
  · exact R.base.keep a o (fun z => by have z' : some c = some a := z; cases z'; rw [show (Bs.mk F0 H0 none).H0 = H0 from rfl, h0] at q; cases q) q
  · obtain ⟨s0, e0, es⟩ := back i s q
    obtain ⟨v, h1, h2⟩ := R.slot i s0 e0
    refine ⟨v, h1, ?_⟩
    subst es
    cases s0 with
    | un => trivial
    | pot => trivial
    | val d => cases v with
      | none => exact h2.elim
      | some v => exact h2
    | kn w => cases v with
      | none => exact h2.elim
      | some v => exact h2
    | own ds =>
      obtain ⟨a, xs, e1, f1, f2, f3, f4, f5⟩ := h2.own_at
      subst e1
      exact ⟨a, xs, rfl, f1, f2, (fun z => by cases z), f4, f5⟩
  · obtain ⟨s1, e1, z1⟩ := back i _ q1
    obtain ⟨s2, e2, z2⟩ := back j _ q2
    have y1 : s1 = .own d1 := by cases s1 <;> first | exact z1 | cases z1
    have y2 : s2 = .own d2 := by cases s2 <;> first | exact z2 | cases z2
    subst y1
    subst y2
    exact R.sep i j d1 d2 a e1 e2 h1 h2
theorem Ret.unpot {K : PySem.W.Frag} {F H F0 H0 : Hp} {v : V} {r : Rv} {n : Nat} {c : Addr} (R : Ret K ⟨F0, H0, some c⟩ F H v r n) (h0 : H0 c = none) : Ret K ⟨F0, H0, none⟩ F H v r 0 := by
  obtain ⟨st, q⟩ := R
  refine ⟨⟨st.fz, st.sub, fun a o _ q => st.keep a o (fun z => by have z' : some c = some a := z; cases z'; rw [show (Bs.mk F0 H0 none).H0 = H0 from rfl, h0] at q; cases q) q, st.new, none0⟩, ?_⟩
  cases r with
  | val d => exact q
  | own ds =>
    obtain ⟨a, xs, h1, h2, h3, h4, h5⟩ := q
    exact ⟨a, xs, h1, h2, h3, (fun z => by cases z), h5⟩
theorem pss_mk {i : Nat} {x : Str} {ex : Expr} {st : List Stmt} {pr : RT} {q : ST} {pos pos' : Pos} (hpt : b.pt = none) (h : PR b X ex pr) (rest : ∀ pt, Pss ⟨b.F0, b.H0, some pt⟩ X st q) (hN : X.N.Nodup) (hi : X.N[i]? = some x := by rfl) (hx : Loc X.env.scope x := by first | exact .inl rfl | exact .inr rfl) (hs : swapsWith ex (some (.Name x pos')) pos.line X.env = pure false := by rfl)
    (hf : X.fn x = true ∨ X.env.scope.names.lookup x = some .local := by first | exact .inl rfl | exact .inr rfl) : Pss b X (.Assign [.Name x pos'] ex pos :: st) (sMk i pr q) := by
  obtain ⟨F0, H0, pt⟩ := b
  have hpt' : pt = none := hpt
  subst hpt'
  refine ⟨⟨fun pins s σ H D I hw => ?_⟩⟩
  obtain ⟨F, e, n, W, R, h', k1, k2, k3, k4⟩ := hw
  -- the value: a new list, the pot
  have key : PSs X (.Assign [.Name x pos'] ex pos :: st) (fun D σ H => liftR X.K ⟨F0, H0, none⟩ pr σ H fun v H1 => ∃ c, v = .ref c ∧ H0 c = none ∧ liftS X.K ⟨F0, H0, some c⟩ q D (σ.set i (some v)) H1) := by
    constructor
    intro pins s σ H D I hq
    have := (pss_cons (ps_set (pos' := pos') (pos := pos) hN hi hx h.pe hs hf) (⟨fun pins s σ H D I hq => (by
      obtain ⟨c, hc⟩ := hq
      exact (rest c).ps.run pins s σ H D I hc)⟩ : PSs X st (fun D σ H => ∃ c, liftS X.K ⟨F0, H0, some c⟩ q D σ H))).run pins s σ H D I
    refine this ?_
    obtain ⟨F, e, n, Qp, R, hp, k⟩ := hq
    refine ⟨F, e, n, Qp, R, hp, fun n1 r q F1 H1 v s1 q1 => ?_⟩
    obtain ⟨c, rfl, _, hc⟩ := k n1 r q F1 H1 v s1 q1
    exact ⟨c, hc⟩
  refine key.run pins s σ H D I ⟨F, e, n, _, R, h', fun n1 r ⟨x0, y0, er, b1, b2, b3, b4, hq⟩ F1 H1 v s1 q1 => ?_⟩
  subst er
  obtain ⟨c, xs, rfl, f1, f0, ha, hd⟩ := q1
  have hxs : xs = [V.int x0, V.int y0, V.int 0] := by
    have := DqAll.ints (ns := [x0, y0, 0]) hd
    simpa using this
  subst hxs
  have R1 := R.step s1
  have h0 := (R.newH0 f0).1
  have nm := R.notMine f0
  refine ⟨c, rfl, h0, F1, e.set i .pot, 0, _, ?_, hq, ?_, ?_, ?_, ?_⟩
  · have pot1 : PotOk (some c) 0 F1 H1 := fun p hp => by
      cases hp
      exact ⟨f1, x0, y0, 0, ha, b1, b2, b3, b4, Int.le_refl _, Int.le_refl _⟩
    refine ⟨by rw [List.length_set, List.length_set]; exact R1.len, ⟨R1.base.fz, R1.base.sub, fun a o _ q => R1.base.keep a o (by simp) q, R1.base.new, pot1⟩, fun j s q => ?_, fun j k d1 d2 a q1 q2 h1 h2 => ?_⟩
    · rcases get_set q with ⟨rfl, rfl, lt⟩ | ⟨ne, q⟩
      · exact ⟨some (.ref c), List.getElem?_set_self (by rw [R1.len]; exact lt), c, rfl, rfl⟩
      · obtain ⟨v, h1, h2⟩ := R1.slot j s q
        refine ⟨v, by rw [List.getElem?_set_ne ne]; exact h1, ?_⟩
        cases s with
        | un => trivial
        | pot => cases v with
          | none => exact h2.elim
          | some v => obtain ⟨p, z, _⟩ := h2; cases z
        | val d => cases v with
          | none => exact h2.elim
          | some v => exact h2
        | kn w => cases v with
          | none => exact h2.elim
          | some v => exact h2
        | own ds =>
          obtain ⟨a, xs, e1, g1, g2, g3, g4, g5⟩ := h2.own_at
          subst e1
          refine ⟨a, xs, rfl, g1, g2, fun z => ?_, g4, g5⟩
          have z' : some c = some a := z
          cases z'
          exact nm ⟨j, ds, q, h1⟩
    · rcases get_set q1 with ⟨_, z, _⟩ | ⟨n1, q1⟩
      · cases z
      · rcases get_set q2 with ⟨_, z, _⟩ | ⟨n2, q2⟩
        · cases z
        · rw [List.getElem?_set_ne n1] at h1
          rw [List.getElem?_set_ne n2] at h2
          exact R1.sep j k d1 d2 a q1 q2 h1 h2
  · intro n' e' q F' H' σ' R' up
    exact k1 0 _ q F' H' σ' (R'.unpot h0) fun a o z => up a o (s1.fz a o z)
  · intro n' r q F' H' v rt
    exact k2 0 r q F' H' v (rt.unpot h0)
  · intro n' e' q F' H' σ' R' up
    exact k3 0 _ q F' H' σ' (R'.unpot h0) fun a o z => up a o (s1.fz a o z)
  · intro n' e' q F' H' σ' R' up
    exact k4 0 _ q F' H' σ' (R'.unpot h0) fun a o z => up a o (s1.fz a o z)
end
end PL

set_option Elab.async false
set_option linter.all false
set_option maxRecDepth 100000
set_option maxHeartbeats 4000000
/-! ## The law's head; comprehensions of two clauses -/
namespace PL
open PySem PySem.Spec PyProof.Rows L2
open Classical
/-- the heap as the law's def meets it: the script alone, as it lies -/
theorem law_at {P : Program} {w : World} {K : PySem.W.Frag} {mg : Str → Option Value} {CX : CXT} {k : Nat} {fa a : Addr} {fd : FuncData} {x : Str} {Φ : List Int → FT} {z : Shared} {ns : List Int} {H : Hp} {base : Heap}
    (F : FnG P w K mg base CX k fa fd [x] (spS K 0 Φ)) (e0 : Env0 P w K mg base callerA [] z H) (hr : Room k callerA) (hb : BindsTo z fd ⟨[.ref a], []⟩ [(x, .ref a)]) (hS : SqL K H a (ns.map V.int)) (hΦ : Φ ns [] fun r => r = .val (.bool true))
    (hno : ∀ c, H c = none ∨ ∃ o ys, H c = some (.frz o (.lst ys))) (hCX : ∀ e s', CX [] H z (fun _ _ _ => False) e s' → False) :
    codeAny (model P w) callerA (.call (.ref fa) ⟨[.ref a], []⟩) (fun r s' => r = .ok (.ret (.bool true)) ∧ OldK z.heap s'.heap ∧ s'.os = z.os ∧ AllBare s'.gens) z := by
  have want : spS K 0 Φ [.ref a] H (fun v _ => v = .bl true) fun _ _ _ => False := by
    refine ⟨fun _ => none, [], fun r => r = .val (.bool true), a, [], ns, rfl, rfl, ?_, hS, .nil, hΦ, ?_⟩
    · intro c o q
      have q' : (none : Option HO) = some o := q
      cases q'
    · rintro r rfl F' H' v ⟨_, hv⟩
      exact Dq.bool_of hv
  have run := F.run callerA [] z H ⟨[.ref a], []⟩ [.ref a] [.ref a] _ _ hr rfl e0 hb (.cons rfl .nil) want
  refine codeAny_mono run ?_
  intro r s' h
  match r, h with
  | .error e, h => exact (hCX e s' h).elim
  | .ok (.ret u), h =>
    obtain ⟨v, H', os, bare, un, hok', rv, q⟩ := h
    have q' : v = .bl true := q
    subst q'
    obtain rfl : u = Value.bool true := rv
    refine ⟨rfl, OldK.of_keep ?_, os, bare⟩
    intro c o e
    rcases hno c with n | ⟨o', ys, n⟩
    · exact un.keep c o e n (fun z => List.not_mem_nil z) (by simp)
    · have l1 := (e0.hok c _ n).1
      have l2 := (hok' c _ (un.frzs c o' _ n)).1
      rw [l1] at e
      cases e
      exact l2
  | .ok .next, h => exact False.elim h
  | .ok .brk, h => exact False.elim h
  | .ok .cont, h => exact False.elim h
theorem law_callG {P : Program} {w : World} {K : PySem.W.Frag} {mg mb : Str → Option Value} {CX : CXT} {k : Nat} {fa a : Addr} {fd : FuncData} {x : Str} {Φ : List Int → FT} {z : Shared} {vs : List Value} {ns : List Int}
    (KX : K.In z.heap) (hns : z.heap.Ns mainGlobals mg) (hb : z.heap.Ns builtinsNs mb) (hbb : ∀ x : Str, x ≠ "__name__" → mb x = bootBuiltins x) (hlim : z.heap.NoLimit) (hg : z.gens = #[])
    (ha : z.heap.get? a = some { cls := .type "list", data := .seq vs.toArray }) (hi : IntsAre vs ns) (hl : ns.length ≤ sizeLine) (hr : Room k callerA)
    (F : ∀ base : Heap, K.In base → base.Ns mainGlobals mg → FnG P w K mg base CX k fa fd [x] (spS K 0 Φ)) (hbind : ∀ (s : Shared) (u : Value), BindsTo s fd ⟨[u], []⟩ [(x, u)])
    (hΦ : Φ ns [] fun r => r = .val (.bool true)) (hCX : ∀ H e s', CX [] H z (fun _ _ _ => False) e s' → False) :
    codeAny (model P w) callerA (.call (.ref fa) ⟨[.ref a], []⟩) (fun r s' => r = .ok (.ret (.bool true)) ∧ OldK z.heap s'.heap ∧ s'.os = z.os ∧ AllBare s'.gens) z := by
  have rv := vals_ints hi
  have lenV := hi.length
  suffices core : ∀ H : Hp, (∀ c, H c = none ∨ ∃ o ys, H c = some (.frz o (.lst ys))) → SqL K H a (ns.map V.int) → HOk P w H z.heap → (∀ c, H c ≠ none → c = a) → (H a ≠ none → K.lookup a = none) →
      codeAny (model P w) callerA (.call (.ref fa) ⟨[.ref a], []⟩) (fun r s' => r = .ok (.ret (.bool true)) ∧ OldK z.heap s'.heap ∧ s'.os = z.os ∧ AllBare s'.gens) z by
    cases hk : K.lookup a with
    | some o =>
      have e := KX a o hk
      rw [ha] at e
      cases e
      refine core (fun _ => none) (fun _ => .inl rfl) (.inr ?_) (fun c u q => by have q' : (none : Option HO) = some u := q; cases q') (fun c q => absurd rfl q) (fun q => absurd rfl q)
      exact ⟨_, vs.toArray, _, hk, rfl, rfl, rfl, by rw [List.size_toArray, lenV]; exact hl, by simpa using rv⟩
    | none =>
      let H : Hp := fun c => if c = a then some (.frz { cls := .type "list", data := .seq vs.toArray } (.lst (ns.map V.int))) else none
      have atA : H a = some (.frz { cls := .type "list", data := .seq vs.toArray } (.lst (ns.map V.int))) := if_pos rfl
      have off : ∀ c, c ≠ a → H c = none := fun c h => if_neg h
      refine core H (fun c => ?_) (.inl (.inr ⟨_, atA⟩)) (fun c u q => ?_) (fun c q => ?_) fun _ => hk
      · rcases Classical.em (c = a) with rfl | h
        · exact .inr ⟨_, _, atA⟩
        · exact .inl (off c h)
      · rcases Classical.em (c = a) with rfl | h
        · rw [atA] at q
          cases q
          exact ⟨ha, by rw [List.length_map]; exact hl, vs, _, rv, ha⟩
        · rw [off c h] at q; cases q
      · rcases Classical.em (c = a) with h | h
        · exact h
        · exact absurd (off c h) q
  intro H hO hS hok hA hK
  -- what is not tracked stands in the base
  have stays : ∀ {c : Addr} {o : Obj}, z.heap.get? c = some o → H c = none → (hidT z.heap H).get? c = some o := fun e n => hidT_get e n
  have only : ∀ {c : Addr}, c ≠ a → H c = none := fun {c} ne => by
    cases q : H c with
    | none => rfl
    | some u => exact absurd (hA c (by rw [q]; simp)) ne
  have dictless : ∀ {c : Addr} {o : Obj} {es : Array DictEntry} {ep : Nat}, z.heap.get? c = some o → o.data = .dict es ep → H c = none := fun {c o es ep} e d => by
    refine only fun h => ?_
    subst h
    rw [ha] at e
    cases e
    have d' : Data.seq vs.toArray _ = Data.dict es ep := d
    cases d'
  have names : ∀ {c : Addr} {m : Str → Option Value}, z.heap.Ns c m → (hidT z.heap H).Ns c m := fun ⟨o, es, ep, e, d, r⟩ => ⟨o, es, ep, stays e (dictless e d), d, r⟩
  have inB : K.In (hidT z.heap H) := fun c o e => by
    refine stays (KX c o e) ?_
    cases q : H c with
    | none => rfl
    | some u =>
      have h := hA c (by rw [q]; simp)
      subst h
      rw [hK (by rw [q]; simp)] at e
      cases e
  have modB : Mod K mg (hidT z.heap H) := ⟨inB, names hns, ⟨mb, names hb, hbb⟩, let ⟨mc, h1, h2⟩ := hlim; ⟨mc, names h1, h2⟩⟩
  have e0 : Env0 P w K mg (hidT z.heap H) callerA [] z H := ⟨rfl, modB, fun c o e => of_hidT e, Nat.le_of_eq (hidT_size _ _), trivial, fun c hc => absurd hc List.not_mem_nil, hok, .of_eq hg⟩
  exact law_at (F _ inB (names hns)) e0 hr (hbind z (.ref a)) hS hΦ hO fun e s' => hCX H e s'
/-- the goal behind the head, from the law's promise -/
theorem walkG {l : PySem.W.OpenLaw} {n k : Nat} {q : Program} {loose : List Str} {XP : (Str → Option Value) → Heap → Prop} {YP : World → Heap → Prop} {d : DefRec} {K : Params → PySem.W.Frag} {CX : CXT} {x : Str} {Φ : List Int → FT}
    (hn : l.most = some n) (hn2 : n ≤ sizeLine) (hdf : d.params.defaults = []) (hr : Room k callerA) (hY : ∀ (w : World) (h : Heap), YP w h → (K w.params).In h)
    (F : ∀ (w : World) (mg : Str → Option Value) (fa : Addr) (h : Heap), (K w.params).In h → h.Ns mainGlobals mg → mg d.name = some (.ref fa) →
      ∃ fd : FuncData, (∀ (s : Shared) (u : Value), BindsTo s fd ⟨[u], []⟩ [(x, u)]) ∧ ∀ base : Heap, (K w.params).In base → base.Ns mainGlobals mg → FnG l.prog w (K w.params) mg base CX k fa fd [x] (spS (K w.params) 0 Φ))
    (hΦ : ∀ ns : List Int, ns.length ≤ n → Φ ns [] fun r => r = .val (.bool true))
    (hCX : ∀ (H : Hp) (s : Shared) (e : Value) (s' : Shared), CX [] H s (fun _ _ _ => False) e s' → False) :
    PySem.W.WalkO q loose XP YP l.row.toRowW d [] (fun f vs => PySem.call f vs) := by
  refine Att.attach_call hn hdf ?_
  intro w s₀ z mg mb fa o pm cd doc a vs ns G Y ho hd hcd hmg hobj hints hlen hg
  have KX := hY w _ Y
  obtain ⟨fd, hb, hF⟩ := F w mg fa _ KX G.T.g hmg
  exact law_callG KX G.T.g G.T.b G.T.builtins G.T.nolimit hg hobj hints (Nat.le_trans hlen hn2) hr hF hb (hΦ ns hlen) fun H e s' => hCX H z e s'
end PL

set_option Elab.async false
set_option linter.all false
set_option maxRecDepth 100000
set_option maxHeartbeats 4000000
/-! ## Comprehensions of two clauses -/
namespace PL
open PySem PySem.Spec PyProof.Rows L2
open Classical
section
variable {X : Cx} {b : Bs}
def comp2 (tg : Tgt) (tt : BT) (src1 : IT) (tg1 : Tgt) (tt1 : BT) (te : VT) (vs vs1 : List Nat) (e : En) : List D → List D → Nat → (Nat → List D → Prop) → Prop
  | [], acc, n, Q => Q n acc
  | d :: r, acc, n, Q => ∃ l, tg d = some l ∧ tt n (updE (wipeE e vs) l) fun n1 c => if c = true then src1 n1 (updE (wipeE e vs) l) fun n2 ds1 => compL tg1 tt1 te vs1 (updE (wipeE e vs) l) ds1 acc n2 fun n3 acc' => comp2 tg tt src1 tg1 tt1 te vs vs1 e r acc' n3 Q else comp2 tg tt src1 tg1 tt1 te vs vs1 e r acc n1 Q
def oLc2 (src : IT) (tg : Tgt) (tt : BT) (src1 : IT) (tg1 : Tgt) (tt1 : BT) (te : VT) (vs vs1 : List Nat) : OT := fun n e Q => src n (frz e) fun n1 ds => comp2 tg tt src1 tg1 tt1 te vs vs1 (frz e) ds [] n1 Q
/-- the list under way -/
structure Und (K : PySem.W.Frag) (pt : Option Addr) (n : Nat) (G0 H0 G1 F H : Hp) (L : Addr) (accV : List V) (acc : List D) : Prop where
  st : Stp pt n G0 H0 F H
  no : F L = none
  at_ : H L = some (.lst accV)
  dat : DqAll K F accV acc
  up : ∀ a o, G1 a = some o → F a = some o
theorem Und.step {K : PySem.W.Frag} {pt : Option Addr} {n n' : Nat} {G0 H0 G1 F H F' H' : Hp} {L : Addr} {accV : List V} {acc : List D} (u : Und K pt n G0 H0 G1 F H L accV acc) (np : pt ≠ some L) (s : Stp pt n' F H F' H') : Und K pt n' G0 H0 G1 F' H' L accV acc := by
  refine ⟨u.st.trans s, ?_, s.keep L _ np u.at_, DqAll.mono s.fz u.dat, fun a o q => s.fz a o (u.up a o q)⟩
  cases z : F' L with
  | none => rfl
  | some o =>
    rcases s.new L (by rw [z]; simp) with w | w
    · exact absurd u.no w
    · rw [u.at_] at w; cases w
theorem Und.push {K : PySem.W.Frag} {pt : Option Addr} {n : Nat} {G0 H0 G1 F H : Hp} {L : Addr} {accV : List V} {acc : List D} {y : V} {d : D} (u : Und K pt n G0 H0 G1 F H L accV acc) (np : pt ≠ some L) (h0 : H0 L = none) (h : Dq K F y d) : Und K pt n G0 H0 G1 F (L2.upd H L (.lst (accV ++ [y]))) L (accV ++ [y]) (acc ++ [d]) := by
  refine ⟨⟨u.st.fz, fun a o q => ?_, fun a o hp q => ?_, u.st.new, fun p hp => ?_⟩, u.no, upd_same, u.dat.append (.cons h .nil), u.up⟩
  · rw [upd_ne (ne_of_none q u.no)]; exact u.st.sub a o q
  · rw [upd_ne (ne_of_none q h0)]; exact u.st.keep a o hp q
  · obtain ⟨g1, x1, x2, x3, g5, g6⟩ := u.st.pot p hp
    exact ⟨g1, x1, x2, x3, by rw [upd_ne (fun z => np (by rw [← z]; exact hp))]; exact g5, g6⟩
theorem stp0 {pt : Option Addr} {n : Nat} {F H F' H' : Hp} (st : Stp none 0 F H F' H') (p : PotOk pt n F H) : Stp pt n F H F' H' := by
  refine ⟨st.fz, st.sub, fun a o _ q => st.keep a o (by simp) q, st.new, fun c hp => ?_⟩
  obtain ⟨h1, x, y, z, h2, h3⟩ := p c hp
  refine ⟨?_, x, y, z, st.keep c _ (by simp) h2, h3⟩
  cases q : F' c with
  | none => rfl
  | some o =>
    rcases st.new c (by rw [q]; simp) with z1 | z1
    · exact absurd h1 z1
    · rw [h2] at z1; cases z1
theorem drop_cons {α : Type} {l : List α} {i : Nat} {d : α} (h : l[i]? = some d) : l.drop i = d :: l.drop (i + 1) := by
  obtain ⟨lt, e⟩ := List.getElem?_eq_some_iff.mp h
  rw [List.drop_eq_getElem_cons lt, e]
theorem Rel.writeNew {K : PySem.W.Frag} {F H : Hp} {σ : L2.St} {e : En} {n : Nat} {L : Addr} {o : HO} (R : Rel K b F H σ e n) (no : noOwn e = true) (fL : F L = none) (h0 : b.H0 L = none) (np : b.pt ≠ some L) : Rel K b F (L2.upd H L o) σ e n := by
  refine ⟨R.len, ⟨R.base.fz, fun a o q => ?_, fun a o hp q => ?_, R.base.new, fun p hp => ?_⟩, fun i s q => ?_, R.sep⟩
  · rw [upd_ne (ne_of_none q fL)]; exact R.base.sub a o q
  · rw [upd_ne (ne_of_none q h0)]; exact R.base.keep a o hp q
  · obtain ⟨g1, x1, x2, x3, g5, g6⟩ := R.base.pot p hp
    exact ⟨g1, x1, x2, x3, by rw [upd_ne (fun z => np (by rw [← z]; exact hp))]; exact g5, g6⟩
  · obtain ⟨v, h1, h2⟩ := R.slot i s q
    refine ⟨v, h1, ?_⟩
    cases s with
    | own ds => exact absurd q (noOwn_no no i ds)
    | un => trivial
    | _ => cases v with
      | none => exact h2.elim
      | some v => exact h2
theorem tLc2_of {src src1 : IT} {g g1 : TG} {tg tg1 : Tgt} {tt tt1 : BT} {te : VT} {vs vs1 : List Nat} (kg : Gd X.K g tg) (kg1 : Gd X.K g1 tg1) (hin : Tin tg vs) (hin1 : Tin tg1 vs1) {σ : L2.St} {H : Hp} {Q : VK} (h : liftO X.K b (oLc2 src tg tt src1 tg1 tt1 te vs vs1) σ H Q) :
    tLc2 (liftI X.K b src) g (liftB X.K b tt) (liftI X.K b src1) g1 (liftB X.K b tt1) (liftV X.K b te) vs vs1 σ H Q := by
  obtain ⟨F, e, n, Qp, R, h, k⟩ := h
  have R0 := R.freeze
  refine ⟨_, frz e, n, _, R0, h, fun n1 ds hq F1 H1 J s1 y L hL => ?_⟩
  rw [plus_noOwn (frz_no e)] at y
  have R1 := R0.step s1
  have hF1 : F1 L = none := by
    cases z : F1 L with
    | none => rfl
    | some o => rw [R1.sub L o z] at hL; cases hL
  have np : b.pt ≠ some L := fun z => by
    obtain ⟨_, x, yy, w, q, _⟩ := R1.pot L z
    rw [hL] at q; cases q
  have hH : H L = none := by
    cases z : H L with
    | none => rfl
    | some o => rw [s1.keep L o np z] at hL; cases hL
  refine ⟨fun i m Hc => m = ds.length - i ∧ i ≤ ds.length ∧ ∃ Fc nc acc accV, Und X.K b.pt nc (plus F H σ e) H F1 Fc Hc L accV acc ∧ comp2 tg tt src1 tg1 tt1 te vs vs1 (frz e) (ds.drop i) acc nc Qp,
    ⟨ds.length, by omega, by omega, F1, n1, [], [], ⟨(R1.newObj (o := .lst []) s1 hL).1, hF1, upd_same, .nil, fun _ _ q => q⟩, hq⟩, ?_⟩
  rintro i m Hc ⟨rfl, hi, Fc, nc, acc, accV, u, hc⟩
  have Rc := R0.step u.st
  obtain ⟨y1, y2⟩ := y Fc Hc i u.up Rc.sub
  by_cases lt : i < ds.length
  · refine .inr ?_
    obtain ⟨d, hd⟩ : ∃ d, ds[i]? = some d := ⟨ds[i], by simp [lt]⟩
    obtain ⟨go, yy⟩ := y2 d hd
    rw [drop_cons hd] at hc
    obtain ⟨l, hl, ht⟩ := hc
    refine ⟨go, fun H' => ∃ m', m' < ds.length - i ∧ (m' = ds.length - (i + 1) ∧ i + 1 ≤ ds.length ∧ ∃ Fc nc acc accV, Und X.K b.pt nc (plus F H σ e) H F1 Fc H' L accV acc ∧ comp2 tg tt src1 tg1 tt1 te vs vs1 (frz e) (ds.drop (i + 1)) acc nc Qp), fun H' q => q, fun x H' hx => ?_⟩
    obtain ⟨G', sy, q1⟩ := yy x H' hx
    have R2 := Rc.stp0 sy
    have u2 := u.step np (stp0 sy Rc.pot)
    refine kg G' H' (L2.wipe σ vs) x d l _ R2.sub q1 hl fun lv up => ⟨?_, ?_⟩
    · rw [wipe_upd up (hin d l hl), wipe_idem vs vs fun _ h => h]
    have R3 := (R2.wipe vs).upd up
    have no3 : noOwn (updE (wipeE (frz e) vs) l) = true := noOwn_upd (noOwn_wipe (frz_no e) vs)
    refine ⟨G', _, nc, _, R3, ht, fun n3 c hc F3 H3 s3 => ?_⟩
    have R4 := R3.step s3
    have u3 := u2.step np s3
    cases c with
    | false => exact iteF ⟨ds.length - (i + 1), by omega, rfl, lt, F3, n3, acc, accV, u3, iF hc⟩
    | true =>
      refine iteT ⟨F3, _, n3, _, R4, iT hc, fun n4 ds1 hq4 F4 H4 J1 s4 yj => ?_⟩
      rw [plus_noOwn no3] at yj
      have u4 := u3.step np s4
      refine ⟨fun j m Hj => m = ds1.length - j ∧ j ≤ ds1.length ∧ ∃ Fj nj acc accV, Und X.K b.pt nj (plus F H σ e) H F1 Fj Hj L accV acc ∧ (∀ a o, F4 a = some o → Fj a = some o) ∧ Rel X.K b Fj Hj _ (updE (wipeE (frz e) vs) l) nj ∧ compL tg1 tt1 te vs1 (updE (wipeE (frz e) vs) l) (ds1.drop j) acc nj fun n3 acc' => comp2 tg tt src1 tg1 tt1 te vs vs1 (frz e) (ds.drop (i + 1)) acc' n3 Qp,
        ⟨ds1.length, by omega, by omega, F4, n4, acc, accV, u4, fun _ _ q => q, R4.step s4, hq4⟩, ?_⟩
      rintro j m Hj ⟨rfl, hj, Fj, nj, accj, accVj, uj, upj, Rj, hcj⟩
      obtain ⟨z1, z2⟩ := yj Fj Hj j upj Rj.sub
      by_cases ltj : j < ds1.length
      · refine .inr ?_
        obtain ⟨dj, hdj⟩ : ∃ d, ds1[j]? = some d := ⟨ds1[j], by simp [ltj]⟩
        obtain ⟨goj, yyj⟩ := z2 dj hdj
        rw [drop_cons hdj] at hcj
        obtain ⟨lj, hlj, htj⟩ := hcj
        refine ⟨goj, fun H' => ∃ m', m' < ds1.length - j ∧ (m' = ds1.length - (j + 1) ∧ j + 1 ≤ ds1.length ∧ ∃ Fj nj acc accV, Und X.K b.pt nj (plus F H σ e) H F1 Fj H' L accV acc ∧ (∀ a o, F4 a = some o → Fj a = some o) ∧ Rel X.K b Fj H' _ (updE (wipeE (frz e) vs) l) nj ∧ compL tg1 tt1 te vs1 (updE (wipeE (frz e) vs) l) (ds1.drop (j + 1)) acc nj fun n3 acc' => comp2 tg tt src1 tg1 tt1 te vs vs1 (frz e) (ds.drop (i + 1)) acc' n3 Qp), fun H' q => q, fun xj H' hxj => ?_⟩
        obtain ⟨Gj, sj, qj⟩ := yyj xj H' hxj
        have Rj2 := Rj.stp0 sj
        have uj2 := uj.step np (stp0 sj Rj.pot)
        refine kg1 Gj H' (L2.wipe _ vs1) xj dj lj _ Rj2.sub qj hlj fun lv1 up1 => ⟨?_, ?_⟩
        · rw [wipe_upd up1 (hin1 dj lj hlj), wipe_idem vs1 vs1 fun _ h => h]
        have Rj3 := (Rj2.wipe vs1).upd up1
        have no4 : noOwn (updE (wipeE (updE (wipeE (frz e) vs) l) vs1) lj) = true := noOwn_upd (noOwn_wipe no3 vs1)
        refine ⟨Gj, _, nj, _, Rj3, htj, fun n5 c hc5 F5 H5 s5 => ?_⟩
        have Rj4 := Rj3.step s5
        have uj3 := uj2.step np s5
        have up5 : ∀ a o, F4 a = some o → F5 a = some o := fun a o q => s5.fz a o (sj.fz a o (upj a o q))
        have Rb5 := Rj2.step s5
        cases c with
        | false => exact iteF ⟨ds1.length - (j + 1), by omega, rfl, ltj, F5, n5, accj, accVj, uj3, up5, Rb5, iF hc5⟩
        | true =>
          refine iteT ⟨F5, _, n5, _, Rj4, iT hc5, fun n6 yd ⟨hz, hq6⟩ F6 H6 yv s6 dy => ?_⟩
          rw [plus_noOwn no4] at dy
          have uj4 := uj3.step np s6
          refine ⟨accVj, uj4.at_, by rw [uj4.dat.length]; exact hz, ds1.length - (j + 1), by omega, rfl, ltj, F6, n6, accj ++ [yd], accVj ++ [yv], uj4.push np hH dy, fun a o q => s6.fz a o (up5 a o q), ?_, hq6⟩
          exact (Rb5.step s6).writeNew no3 uj4.no ((R.newH0 hH).1) np
      · have e0 : j = ds1.length := by omega
        refine .inl ⟨z1 e0, ?_⟩
        rw [e0, List.drop_length] at hcj
        exact ⟨ds.length - (i + 1), by omega, rfl, lt, Fj, nj, accj, accVj, uj, hcj⟩
  · have e0 : i = ds.length := by omega
    refine .inl ⟨y1 e0, ?_⟩
    rw [e0, List.drop_length] at hc
    obtain ⟨F', st', m1, m2⟩ := R.over u.st (.inl rfl)
    exact k nc acc hc F' Hc L accV st' (m2 L u.no) hH u.at_ (DqAll.mono m1 u.dat)
theorem po_lc2 {elt t iter t1 iter1 : Expr} {ifs ifs1 : List Expr} {scope : Scope} {own : List (Str × Nat)} {vs1 : List Nat} {pos : Pos} {src src1 : IT} {g g1 : TG} {tg tg1 : Tgt} {tt tt1 : BT} {te : VT} (hc : X.calm = true) (hN : X.N.Nodup) (hi : PIt b X t iter src) (ok : BlkOk X.N X.env.scope scope own) (hv : ∀ i ∈ vs1, i ∈ own.map (·.2))
    (hg : ∀ (s : Shared) (H : Hp) (C : Addr) (cl : List (Str × Addr)) (fp : List Addr), PG (X.blk s H scope (compEnvC scope cl C X.env) fp) t g) (kg : Gd X.K g tg) (hin : Tin tg (own.map (·.2)))
    (ht : ∀ (s : Shared) (H : Hp) (C : Addr) (cl : List (Str × Addr)) (fp : List Addr), PBs b (X.blk s H scope (compEnvC scope cl C X.env) fp) ifs tt)
    (hi1 : ∀ (s : Shared) (H : Hp) (C : Addr) (cl : List (Str × Addr)) (fp : List Addr), PIt b (X.blk s H scope (compEnvC scope cl C X.env) fp) t1 iter1 src1)
    (hg1 : ∀ (s : Shared) (H : Hp) (C : Addr) (cl : List (Str × Addr)) (fp : List Addr), PG (X.blk s H scope (compEnvC scope cl C X.env) fp) t1 g1) (kg1 : Gd X.K g1 tg1) (hin1 : Tin tg1 vs1)
    (ht1 : ∀ (s : Shared) (H : Hp) (C : Addr) (cl : List (Str × Addr)) (fp : List Addr), PBs b (X.blk s H scope (compEnvC scope cl C X.env) fp) ifs1 tt1)
    (he : ∀ (s : Shared) (H : Hp) (C : Addr) (cl : List (Str × Addr)) (fp : List Addr), PV b (X.blk s H scope (compEnvC scope cl C X.env) fp) elt te) (hs : ∀ x, foldedSetIterable iter X.env x = pure x := by intro _; rfl) (hs1 : ∀ env x, foldedSetIterable iter1 env x = pure x := by intro _ _; rfl) :
    PO b X (.ListComp elt [⟨t, iter, ifs, 0⟩, ⟨t1, iter1, ifs1, 0⟩] scope pos) (oLc2 src tg tt src1 tg1 tt1 te (own.map (·.2)) vs1) :=
  ⟨weakE (pe_lc2 hc hN hi.pi ok hv hg (fun s H C cl fp => (ht s H C cl fp).pt) (fun s H C cl fp => (hi1 s H C cl fp).pi) hg1 (fun s H C cl fp => (ht1 s H C cl fp).pt) (fun s H C cl fp => (he s H C cl fp).pe) hs hs1) fun σ H Q h => tLc2_of kg kg1 hin hin1 h⟩
end
end PL

set_option Elab.async false
set_option linter.all false
set_option maxRecDepth 100000
set_option maxHeartbeats 4000000
/-! ## For the printed terms -/
namespace PL
open PySem PySem.Spec PyProof.Rows L2
open Classical
theorem passN {X : Cx} {E : XK} : Passes L2.CX0 X E := fun _ _ _ _ _ _ _ h => h.elim
theorem u65 {k : Nat} {A : Around} (r : Room k A) : A.units + 65 < cLine := by have := r.un; omega
theorem u64 {k : Nat} {A : Around} (r : Room k A) : A.units + 64 < cLine := by have := r.un; omega
/-- a def that can be called -/
structure Cal (P : Program) (w : World) (K : PySem.W.Frag) (mg : Str → Option Value) (base : Heap) (CX : CXT) (k : Nat) (x : Str) (f : Addr) (fd : FuncData) (ps : List Str) (sp : Sp) : Prop where
  fn : FnG P w K mg base CX k f fd ps sp
  m : mg x = some (.ref f)
  kp : PySem.W.keepIn K (.ref f) = true
  b : Binds K fd ps []
def g0 {α : Type} (us ws : List α) : List α := match us with
  | [] => ws
  | _ :: _ => []
theorem fun_kbinds {K : PySem.W.Frag} {x qual : Str} {st : Stmt} {f : Addr} {fd : FuncData} {ps ks : List Str} (F : Fun K x qual st f fd) (hne : 0 < ps.length)
    (h : ∀ (kV doc pm : Value) (an : Option Addr) (cdv ct : Value) (ws : List Value), ws.length = ps.length → bindArgs (PySem.W.fnOf x qual (defArgs st) (defBody st) (defScope st) .none kV doc pm an cdv ct) ⟨[], ks.zip ws⟩ = pure (ps.zip ws)) : KBinds K fd ps ks g0 g0 := by
  obtain ⟨oc, od, kV, doc, pm, an, cdv, ct, osl, rfl, lk, hcd⟩ := F.ex
  refine ⟨fun s us ws _ hl => ?_, fun {vs us zs ws} r1 r2 => ?_⟩
  · cases us with
    | nil => exact .of_eq (h kV doc pm an cdv ct ws hl)
    | cons u us =>
      have hl' : (0 : Nat) = ps.length := hl
      omega
  · cases r1 with
    | nil => exact r2
    | cons _ _ => exact .nil
section
variable {X : Cx} {b : Bs} {CX : CXT} {k k' j : Nat} {f : Addr} {fd : FuncData} {ps : List Str} {x : Str} {p pos : Pos} {e : Expr} {es : List Expr} {Φ : FT} {Ψ : FD} {pa : AT}
theorem pr_fun (F : Cal X.prog X.w X.K X.mg X.base CX k x f fd ps (spP X.K j Φ)) (hx : ∀ E, Passes CX X E) (hr : Room k' X.A) (hgd : X.A.guards = some []) 
    (ha : PAs b X (e :: es) pa) (hk : k ≤ k' := by decide) (hg : Gl X x := by rfl) (hdb : (x == ("__debug__" : Str)) = false := by decide) (he : starEach (e :: es) X.env = (false, eval e X.env) :: starEach es X.env := by rfl) (hpl : (backTo pos (starEach es X.env)).any (·.1) = false := by rfl) :
    PR b X (.Call (.Name x p) (e :: es) [] pos) (rCall Φ j pa) := pr_call F.fn (hr.mono hk) hgd F.m F.kp F.b hx ha hg hdb he hpl
theorem pr_fun0 (F : Cal X.prog X.w X.K X.mg X.base CX k x f fd ps (spP X.K 0 Φ)) (hx : ∀ E, Passes CX X E) (hr : Room k' X.A) (hgd : X.A.guards = some []) (hk : k ≤ k' := by decide)
    (hg : Gl X x := by rfl) (hdb : (x == ("__debug__" : Str)) = false := by decide) : PR b X (.Call (.Name x p) [] [] pos) (rCall Φ 0 pNil) := pr_call0 F.fn (hr.mono hk) hgd F.m F.kp F.b hx hg hdb
theorem pr_funK {ks : List Str} {kws : List Keyword} (F : Cal X.prog X.w X.K X.mg X.base CX k x f fd ps (spP X.K j Φ)) (hb : KBinds X.K fd ps ks g0 g0) (hx : ∀ E, Passes CX X E) (hr : Room k' X.A) (hgd : X.A.guards = some [])
    (hkw : PKs b X kws pa) (hk : k ≤ k' := by decide) (hall : (backToKw pos (keywordEach kws X.env)).all (·.1.isSome) = true := by rfl) (hks : (backToKw pos (keywordEach kws X.env)).filterMap (·.1) = ks := by rfl)
    (hg : Gl X x := by rfl) (hdb : (x == ("__debug__" : Str)) = false := by decide)
    (hpl : ((backTo pos (starEach [] X.env)).any (·.1) || (backToKw pos (keywordEach kws X.env)).any (·.1.isNone)) = false := by rfl) :
    PR b X (.Call (.Name x p) [] kws pos) (rCall Φ j pa) := by
  refine ⟨weakE (pe_callGK0 F.fn (hr.mono hk) hgd hg F.m F.kp hb (hx fun _ _ _ => False) hkw.pk hall hks hdb hpl) ?_⟩
  rintro σ H Q ⟨F, en, n, Qp, R, h, k⟩
  exact liftA_call R h k
theorem pr_funD {i : Nat} {y : Str} {py : Pos} (F : Cal X.prog X.w X.K X.mg X.base CX k x f fd ps (spD X.K j Ψ)) (hx : ∀ E, Passes CX X E) (hr : Room k' X.A) (hgd : X.A.guards = some [])
    (ha : PAs b X es pa) (hk : k ≤ k' := by decide) (hN : X.N[i]? = some y := by rfl) (hv : Vis X.env.scope y := by first | exact Or.inl rfl | exact Or.inr (Or.inl rfl) | exact Or.inr (Or.inr rfl)) (hd : (y == ("__debug__" : Str)) = false := by decide)
    (hcd : (y == ("__classdict__" : Str)) = false := by decide) (hg : Gl X x := by rfl) (hdb : (x == ("__debug__" : Str)) = false := by decide) (he : starEach (.Name y py :: es) X.env = (false, eval (.Name y py) X.env) :: starEach es X.env := by rfl) (hpl : (backTo pos (starEach es X.env)).any (·.1) = false := by rfl) :
    PR b X (.Call (.Name x p) (.Name y py :: es) [] pos) (rCallD i Ψ j pa) := pr_callD F.fn (hr.mono hk) hgd F.m F.kp F.b hx ha hN hv hd hcd hg hdb he hpl
theorem pr_funS {Φ : List Int → FT} {a : Addr} {ns : List Int} {i : Nat} {y : Str} {py : Pos} (F : Cal X.prog X.w X.K X.mg X.base CX k x f fd ps (spS X.K j Φ)) (hS : SqL X.K b.H0 a (ns.map V.int)) (hpt : b.pt ≠ some a) (hx : ∀ E, Passes CX X E) (hr : Room k' X.A) (hgd : X.A.guards = some [])
    (ha : PAs b X es pa) (hk : k ≤ k' := by decide) (hN : X.N[i]? = some y := by rfl) (hv : Vis X.env.scope y := by first | exact Or.inl rfl | exact Or.inr (Or.inl rfl) | exact Or.inr (Or.inr rfl)) (hd : (y == ("__debug__" : Str)) = false := by decide)
    (hcd : (y == ("__classdict__" : Str)) = false := by decide) (hg : Gl X x := by rfl) (hdb : (x == ("__debug__" : Str)) = false := by decide) (he : starEach (.Name y py :: es) X.env = (false, eval (.Name y py) X.env) :: starEach es X.env := by rfl) (hpl : (backTo pos (starEach es X.env)).any (·.1) = false := by rfl) :
    PR b X (.Call (.Name x p) (.Name y py :: es) [] pos) (rCallS i a ns Φ j pa) := pr_callS hS hpt F.fn (hr.mono hk) hgd F.m F.kp F.b hx ha hN hv hd hcd hg hdb he hpl
/-! minus -/
def oNeg : VT → VT := fun p n e Q => p n e fun n1 d => ∃ i, d = .int i ∧ Q n1 (.int (-i))
theorem pv_neg {a : Expr} {pa : VT} (ha : PV b X a pa) : PV b X (.UnaryOp .USub a pos) (oNeg pa) := by
  refine ⟨weakE (pe_un un_neg ha.pe) ?_⟩
  rintro σ H Q ⟨F, e, n, Qp, R, h, k⟩
  refine liftV_of R h fun n1 d ⟨i, ed, h1⟩ F1 H1 v R1 s1 q1 => ?_
  subst ed
  exact ⟨i, q1.int_of, k n1 _ h1 F1 H1 _ s1 (.int _)⟩
end
end PL
namespace PL
open PySem PySem.Spec PyProof.Rows L2
open Classical
section
variable {X : Cx} {b : Bs}
def imRan1 (p : VT) : IMT := fun n e Q => iRan1 p n e fun n1 ds => Q n1 e ds
def imRan2 (p q : VT) : IMT := fun n e Q => iRan2 p q n e fun n1 ds => Q n1 e ds
/-- list(range(b)) -/
def oLrange1 (p : VT) : OT := fun n e Q => p n e fun n1 d => ∃ j : Int, d = .int j ∧ RgOk 0 j ∧ Q n1 (rangeD 0 j.toNat)
theorem po_listRange1 {a : Expr} {pa : VT} {p p2 pos pos2 : Pos} (h1 : X.mg "list" = none) (h2 : X.mg "range" = none) (ha : PV b X a pa) (hc : X.calm = true := by rfl) (hg : Gl X "list" := by rfl) (hg2 : Gl X "range" := by rfl)
    (na : starEach [.Call (.Name "range" p2) [a] [] pos2] X.env = (false, eval (.Call (.Name "range" p2) [a] [] pos2) X.env) :: starEach [] X.env := by rfl) (na2 : starEach [a] X.env = (false, eval a X.env) :: starEach [] X.env := by rfl) :
    PO b X (.Call (.Name "list" p) [.Call (.Name "range" p2) [a] [] pos2] [] pos) (oLrange1 pa) := by
  refine ⟨weakE (pe_listRg hc hg h1 (prg_1 hg2 h2 ha.pe na2) na) ?_⟩
  rintro σ H Q ⟨F, e, n, Qp, R, h, k⟩
  refine liftV_of R h fun n1 d ⟨j, ed, hj, q⟩ F1 H1 v R1 s1 q1 => ?_
  subst ed
  refine ⟨j, q1.int_of, hj, fun p hp => ?_⟩
  obtain ⟨st, f1, f0, f3⟩ := R1.newObj (o := .lst (rgV 0 j)) s1 hp
  refine k n1 _ q F1 _ p _ st f1 f0 upd_same ?_
  have key : ∀ (l : List Nat) (G : Hp), DqAll X.K G (l.map fun i => V.int (0 + (i : Nat))) (l.map fun k => PyData.int (0 + (k : Nat))) := by
    intro l G
    induction l with
    | nil => exact .nil
    | cons x l ih => exact .cons (.int _) ih
  unfold rgV rangeD
  rw [Int.sub_zero]
  exact key _ _
end
end PL
namespace PL
open PySem PySem.Spec PyProof.Rows L2
open Classical
section
variable {X : Cx} {b : Bs}
/-- y = [ .. ], a comprehension -/
theorem ps_setLc' {i : Nat} {y : Str} {py spos : Pos} {elt t iter : Expr} {ifs : List Expr} {scope : Scope} {own : List (Str × Nat)} {pos : Pos} {src : IT} {g : TG} {tg : Tgt} {tt : BT} {te : VT} (hc : X.calm = true) (hN : X.N.Nodup) (hi : PIt b X t iter src) (ok : BlkOk X.N X.env.scope scope own)
    (hg : ∀ (s : Shared) (H : Hp) (C : Addr) (cl : List (Str × Addr)) (fp : List Addr), PG (X.blk s H scope (compEnvC scope cl C X.env) fp) t g) (kg : Gd X.K g tg) (hin : Tin tg (own.map (·.2)))
    (ht : ∀ (s : Shared) (H : Hp) (C : Addr) (cl : List (Str × Addr)) (fp : List Addr), PBs b (X.blk s H scope (compEnvC scope cl C X.env) fp) ifs tt)
    (he : ∀ (s : Shared) (H : Hp) (C : Addr) (cl : List (Str × Addr)) (fp : List Addr), PV b (X.blk s H scope (compEnvC scope cl C X.env) fp) elt te)
    (hy : X.N[i]? = some y := by rfl) (hyl : X.env.scope.names.lookup y = some .local := by rfl) (hk : X.env.scope.kind = .function := by rfl) (hl : (py.line == pos.line) = true := by rfl) (ha : (scope.names.any fun (n, k) => n == y && (k == .local || k == .cell)) = false := by rfl)
    (hs : ∀ x, foldedSetIterable iter X.env x = pure x := by intro _; rfl) :
    Ps b X (.Assign [.Name y py] (.ListComp elt [⟨t, iter, ifs, 0⟩] scope pos) spos) (sSet i (rO (oLc src tg tt te (own.map (·.2))))) := by
  refine ⟨weakS (ps_setLc (i := i) (wi := liftI X.K b src) (tt := liftB X.K b tt) (te := liftV X.K b te) hc hN hy hyl (sw_true hk hyl hl ha) hi.pi ok hg (fun s H C cl fp => (ht s H C cl fp).pt) (fun s H C cl fp => (he s H C cl fp).pe) hs) ?_⟩
  rintro D σ H ⟨F, e, n, W, R, h, k1, k2, k3, k4⟩
  refine tLc_of (it := iter) (t := t) (elt := elt) kg hin ⟨F, e, n, _, R, h, fun n1 ds q F1 H1 a xs s1 f1 f0 ha hd => ?_⟩
  obtain ⟨F2, R2, up⟩ := R.laid (i := i) (v := .ref a) (r := .own ds) s1 ⟨a, xs, rfl, f1, f0, ha, hd⟩
  exact k1 _ _ q F2 H1 _ R2 fun a o z => up a o (s1.fz a o z)
theorem ps_setLc2' {i : Nat} {y : Str} {py spos : Pos} {elt t iter t1 iter1 : Expr} {ifs ifs1 : List Expr} {scope : Scope} {own : List (Str × Nat)} {vs1 : List Nat} {pos : Pos} {src src1 : IT} {g g1 : TG} {tg tg1 : Tgt} {tt tt1 : BT} {te : VT} (hc : X.calm = true) (hN : X.N.Nodup) (hi : PIt b X t iter src) (ok : BlkOk X.N X.env.scope scope own) (hv : ∀ i ∈ vs1, i ∈ own.map (·.2))
    (hg : ∀ (s : Shared) (H : Hp) (C : Addr) (cl : List (Str × Addr)) (fp : List Addr), PG (X.blk s H scope (compEnvC scope cl C X.env) fp) t g) (kg : Gd X.K g tg) (hin : Tin tg (own.map (·.2)))
    (ht : ∀ (s : Shared) (H : Hp) (C : Addr) (cl : List (Str × Addr)) (fp : List Addr), PBs b (X.blk s H scope (compEnvC scope cl C X.env) fp) ifs tt)
    (hi1 : ∀ (s : Shared) (H : Hp) (C : Addr) (cl : List (Str × Addr)) (fp : List Addr), PIt b (X.blk s H scope (compEnvC scope cl C X.env) fp) t1 iter1 src1)
    (hg1 : ∀ (s : Shared) (H : Hp) (C : Addr) (cl : List (Str × Addr)) (fp : List Addr), PG (X.blk s H scope (compEnvC scope cl C X.env) fp) t1 g1) (kg1 : Gd X.K g1 tg1) (hin1 : Tin tg1 vs1)
    (ht1 : ∀ (s : Shared) (H : Hp) (C : Addr) (cl : List (Str × Addr)) (fp : List Addr), PBs b (X.blk s H scope (compEnvC scope cl C X.env) fp) ifs1 tt1)
    (he : ∀ (s : Shared) (H : Hp) (C : Addr) (cl : List (Str × Addr)) (fp : List Addr), PV b (X.blk s H scope (compEnvC scope cl C X.env) fp) elt te)
    (hy : X.N[i]? = some y := by rfl) (hyl : X.env.scope.names.lookup y = some .local := by rfl) (hk : X.env.scope.kind = .function := by rfl) (hl : (py.line == pos.line) = true := by rfl) (ha : (scope.names.any fun (n, k) => n == y && (k == .local || k == .cell)) = false := by rfl)
    (hs : ∀ x, foldedSetIterable iter X.env x = pure x := by intro _; rfl) (hs1 : ∀ env x, foldedSetIterable iter1 env x = pure x := by intro _ _; rfl) :
    Ps b X (.Assign [.Name y py] (.ListComp elt [⟨t, iter, ifs, 0⟩, ⟨t1, iter1, ifs1, 0⟩] scope pos) spos) (sSet i (rO (oLc2 src tg tt src1 tg1 tt1 te (own.map (·.2)) vs1))) := by
  refine ⟨weakS (ps_setLc2 (i := i) (wi := liftI X.K b src) (tt := liftB X.K b tt) (wi1 := liftI X.K b src1) (tt1 := liftB X.K b tt1) (te := liftV X.K b te) hc hN hy hyl (sw_true hk hyl hl ha) hi.pi ok hv hg (fun s H C cl fp => (ht s H C cl fp).pt) (fun s H C cl fp => (hi1 s H C cl fp).pi) hg1 (fun s H C cl fp => (ht1 s H C cl fp).pt) (fun s H C cl fp => (he s H C cl fp).pe) hs hs1) ?_⟩
  rintro D σ H ⟨F, e, n, W, R, h, k1, k2, k3, k4⟩
  refine tLc2_of kg kg1 hin hin1 ⟨F, e, n, _, R, h, fun n1 ds q F1 H1 a xs s1 f1 f0 ha hd => ?_⟩
  obtain ⟨F2, R2, up⟩ := R.laid (i := i) (v := .ref a) (r := .own ds) s1 ⟨a, xs, rfl, f1, f0, ha, hd⟩
  exact k1 _ _ q F2 H1 _ R2 fun a o z => up a o (s1.fz a o z)
end
end PL
namespace PL
open PySem PySem.Spec PyProof.Rows L2
open Classical
/-! texts, compared -/
def oEqS : D → D → (D → Prop) → Prop := fun d e Q => match d, e with
  | .str x, .str y => Q (.bool (decide (x = y)))
  | _, _ => False
def oNeS : D → D → (D → Prop) → Prop := fun d e Q => match d, e with
  | .str x, .str y => Q (.bool (!decide (x = y)))
  | _, _ => False
theorem dec_strV {x y : PySem.Str} : decide (V.str x = V.str y) = decide (x = y) := by
  by_cases h : x = y
  · rw [decide_eq_true h, decide_eq_true (congrArg V.str h)]
  · rw [decide_eq_false h, decide_eq_false fun z => h (by injection z)]
theorem opp_eqS {K : PySem.W.Frag} : OpP K rEq oEqS := by
  intro G H x y d1 d2 Qd Q hs h1 h2 h k
  cases h1 <;> cases h2 <;> first | exact h.elim | skip
  exact ⟨rfl, by rw [dec_strV]; exact k _ h G H _ (st0 hs) (.bl _)⟩
theorem opp_neS {K : PySem.W.Frag} : OpP K rNe oNeS := by
  intro G H x y d1 d2 Qd Q hs h1 h2 h k
  cases h1 <;> cases h2 <;> first | exact h.elim | skip
  exact ⟨rfl, by rw [dec_strV]; exact k _ h G H _ (st0 hs) (.bl _)⟩
end PL

set_option Elab.async false
set_option linter.all false
set_option maxRecDepth 100000
set_option maxHeartbeats 4000000
/-! ## Reading terms -/
namespace PL
open PySem PySem.Spec PyProof.Rows L2
open Classical
theorem isT_int_none : isT "int" .none = false := rfl
theorem isT_int_bool (b : Bool) : isT "int" (.bool b) = true := rfl
theorem isT_int_int (i : Int) : isT "int" (.int i) = true := rfl
theorem isT_int_str (z : PySem.Str) : isT "int" (.str z) = false := rfl
theorem isT_int_list (xs : List D) : isT "int" (.list xs) = false := rfl
theorem isT_int_tuple (xs : List D) : isT "int" (.tuple xs) = false := rfl
theorem isT_bool_none : isT "bool" .none = false := rfl
theorem isT_bool_bool (b : Bool) : isT "bool" (.bool b) = true := rfl
theorem isT_bool_int (i : Int) : isT "bool" (.int i) = false := rfl
theorem isT_bool_str (z : PySem.Str) : isT "bool" (.str z) = false := rfl
theorem isT_bool_list (xs : List D) : isT "bool" (.list xs) = false := rfl
theorem isT_bool_tuple (xs : List D) : isT "bool" (.tuple xs) = false := rfl
theorem isT_str_none : isT "str" .none = false := rfl
theorem isT_str_bool (b : Bool) : isT "str" (.bool b) = false := rfl
theorem isT_str_int (i : Int) : isT "str" (.int i) = false := rfl
theorem isT_str_str (z : PySem.Str) : isT "str" (.str z) = true := rfl
theorem isT_str_list (xs : List D) : isT "str" (.list xs) = false := rfl
theorem isT_str_tuple (xs : List D) : isT "str" (.tuple xs) = false := rfl
theorem isT_list_none : isT "list" .none = false := rfl
theorem isT_list_bool (b : Bool) : isT "list" (.bool b) = false := rfl
theorem isT_list_int (i : Int) : isT "list" (.int i) = false := rfl
theorem isT_list_str (z : PySem.Str) : isT "list" (.str z) = false := rfl
theorem isT_list_list (xs : List D) : isT "list" (.list xs) = true := rfl
theorem isT_list_tuple (xs : List D) : isT "list" (.tuple xs) = false := rfl
theorem isT_tuple_none : isT "tuple" .none = false := rfl
theorem isT_tuple_bool (b : Bool) : isT "tuple" (.bool b) = false := rfl
theorem isT_tuple_int (i : Int) : isT "tuple" (.int i) = false := rfl
theorem isT_tuple_str (z : PySem.Str) : isT "tuple" (.str z) = false := rfl
theorem isT_tuple_list (xs : List D) : isT "tuple" (.list xs) = false := rfl
theorem isT_tuple_tuple (xs : List D) : isT "tuple" (.tuple xs) = true := rfl
theorem atI_zero {α : Type} (x : α) (xs : List α) : atI (x :: xs) 0 = some x := by
  unfold atI ixN
  rw [if_pos (by omega), if_pos (by rw [List.length_cons]; omega)]
  rfl
theorem atI_one {α : Type} (x y : α) (xs : List α) : atI (x :: y :: xs) 1 = some y := by
  unfold atI ixN
  rw [if_pos (by omega), if_pos (by rw [List.length_cons, List.length_cons]; omega)]
  rfl
theorem atI_two {α : Type} (x y z : α) (xs : List α) : atI (x :: y :: z :: xs) 2 = some z := by
  unfold atI ixN
  rw [if_pos (by omega), if_pos (by rw [List.length_cons, List.length_cons, List.length_cons]; omega)]
  rfl
theorem atI_ofNat {α : Type} (xs : List α) (k : Nat) : atI xs (k : Int) = xs[k]? := by
  unfold atI ixN
  rw [if_pos (by omega)]
  by_cases h : k < xs.length
  · rw [if_pos (by omega)]; rfl
  · rw [if_neg (by omega)]
    exact (List.getElem?_eq_none (by omega)).symm
theorem atI_last {α : Type} (xs : List α) (x : α) : atI (xs ++ [x]) (-1) = some x := by
  unfold atI ixN
  rw [if_neg (by omega), if_pos (by rw [List.length_append, List.length_singleton]; omega)]
  show (xs ++ [x])[(-1 + ((xs ++ [x]).length : Int)).toNat]? = some x
  have e : (-1 + ((xs ++ [x]).length : Int)).toNat = xs.length := by rw [List.length_append, List.length_singleton]; omega
  rw [e, List.getElem?_append_right (Nat.le_refl _), Nat.sub_self]
  rfl
theorem ex_nil {α β : Type} {f : α → β} {P : List α → Prop} : (∃ bs, ([] : List β) = bs.map f ∧ P bs) ↔ P [] := by
  constructor
  · rintro ⟨bs, e, h⟩
    cases bs with
    | nil => exact h
    | cons b bs => cases e
  · exact fun h => ⟨[], rfl, h⟩
theorem ex_cons {α β : Type} {f : α → β} {P : List α → Prop} {d : β} {ds : List β} : (∃ bs, d :: ds = bs.map f ∧ P bs) ↔ ∃ x, d = f x ∧ ∃ bs, ds = bs.map f ∧ P (x :: bs) := by
  constructor
  · rintro ⟨bs, e, h⟩
    cases bs with
    | nil => cases e
    | cons b bs =>
      rw [List.map_cons] at e
      injection e with e1 e2
      exact ⟨b, e1, bs, e2, h⟩
  · rintro ⟨x, e1, bs, e2, h⟩
    exact ⟨x :: bs, by rw [List.map_cons, e1, e2], h⟩
theorem oAll_map {α : Type} {l : List α} {f : α → Bool} {Q : D → Prop} (h : Q (.bool (l.all f))) : oAll [.list (l.map fun x => .bool (f x))] Q := ⟨l.map f, by rw [List.map_map]; rfl, by rw [List.all_map]; exact h⟩
theorem oAny_map {α : Type} {l : List α} {f : α → Bool} {Q : D → Prop} (h : Q (.bool (l.any f))) : oAny [.list (l.map fun x => .bool (f x))] Q := ⟨l.map f, by rw [List.map_map]; rfl, by rw [List.any_map]; exact h⟩
/-! shapes -/
def flat : D → Bool
  | .none => true
  | .bool _ => true
  | .int _ => true
  | _ => false
theorem flat_lay {d : D} (h : flat d = true) : d.canLay0 = true ∧ d.depth = 0 := by
  cases d with
  | none => exact ⟨by simp [PyData.canLay0], by simp [PyData.depth]⟩
  | bool b => exact ⟨by simp [PyData.canLay0], by simp [PyData.depth]⟩
  | int i => exact ⟨by simp [PyData.canLay0], by simp [PyData.depth]⟩
  | _ => cases h
theorem flats_lay : ∀ {ds : List D}, (∀ d ∈ ds, flat d = true) → PyData.canLayAll0 ds = true ∧ PyData.depthAll ds = 0
  | [], _ => ⟨by simp [PyData.canLayAll0], by simp [PyData.depthAll]⟩
  | d :: ds, h => by
    obtain ⟨a1, a2⟩ := flat_lay (h d List.mem_cons_self)
    obtain ⟨c1, c2⟩ := flats_lay (ds := ds) fun x hx => h x (List.mem_cons_of_mem _ hx)
    exact ⟨by simp [PyData.canLayAll0, a1, c1], by simp [PyData.depthAll, a2, c2]⟩
theorem shaped_flat {d : D} (h : flat d = true) : SeqAt.shaped d = true := by
  obtain ⟨a1, a2⟩ := flat_lay h
  simp [SeqAt.shaped, a1, a2]
theorem shaped_list {ds : List D} (h : ∀ d ∈ ds, flat d = true) : SeqAt.shaped (.list ds) = true := by
  obtain ⟨a1, a2⟩ := flats_lay h
  simp [SeqAt.shaped, PyData.canLay0, PyData.depth, a1, a2]
theorem shaped_tuple {ds : List D} (h : ∀ d ∈ ds, flat d = true) : SeqAt.shaped (.tuple ds) = true := by
  obtain ⟨a1, a2⟩ := flats_lay h
  simp [SeqAt.shaped, PyData.canLay0, PyData.depth, a1, a2]
theorem shaped_int (i : Int) : SeqAt.shaped (.int i) = true := shaped_flat rfl
theorem shaped_bool (b : Bool) : SeqAt.shaped (.bool b) = true := shaped_flat rfl
theorem shaped_none : SeqAt.shaped .none = true := shaped_flat rfl
theorem eqv_int (i j : Int) : PyData.eqv (.int i) (.int j) = decide (i = j) := by
  simp only [PyData.eqv]
  by_cases h : i = j
  · rw [decide_eq_true h, h, beq_self_eq_true]
  · rw [decide_eq_false h]; exact beq_eq_false_iff_ne.mpr h
theorem str_beq (x y : PySem.Str) : (x == y) = decide (x = y) := by
  by_cases h : x = y
  · rw [decide_eq_true h, h]
    exact beq_self_eq_true y
  · rw [decide_eq_false h]; exact beq_eq_false_iff_ne.mpr h
theorem eqv_str (x y : PySem.Str) : PyData.eqv (.str x) (.str y) = decide (x = y) := by
  simp only [PyData.eqv]
  exact str_beq x y
theorem eqvAll_ints : ∀ (xs ys : List Int), PyData.eqvAll (xs.map PyData.int) (ys.map PyData.int) = decide (xs = ys)
  | [], [] => by simp [PyData.eqvAll]
  | [], y :: ys => by simp [PyData.eqvAll]
  | x :: xs, [] => by simp [PyData.eqvAll]
  | x :: xs, y :: ys => by
    simp only [List.map_cons, PyData.eqvAll, eqv_int, eqvAll_ints xs ys]
    by_cases h : x = y
    · subst h; simp
    · simp [h]
/-! ## helpers for the readings -/
theorem line_le {n : Nat} (h : n ≤ 100000) : n ≤ sizeLine := Nat.le_trans h (by decide)
theorem line_lt {n : Nat} (h : n < 100000) : n < sizeLine := Nat.lt_of_lt_of_le h (by decide)
/-- a comprehension over one name, no test -/
theorem comp_go {tg : Tgt} {te : VT} {vs : List Nat} {e : En} {n : Nat} (g : D → D) : ∀ (ds acc : List D) (Q : Nat → List D → Prop), (∀ d ∈ ds, ∃ l, tg d = some l ∧ ∀ R : Nat → D → Prop, R n (g d) → te n (updE (wipeE e vs) l) R) → acc.length + ds.length ≤ sizeLine → Q n (acc ++ ds.map g) → compL tg bYes te vs e ds acc n Q
  | [], acc, Q, _, _, q => by
    rw [List.map_nil, List.append_nil] at q
    exact q
  | d :: ds, acc, Q, h, hz, q => by
    obtain ⟨l, hl, ht⟩ := h d List.mem_cons_self
    refine ⟨l, hl, ?_⟩
    refine iteT (B := compL tg bYes te vs e ds acc n Q) (ht _ ⟨by rw [List.length_cons] at hz; omega, ?_⟩)
    refine comp_go g ds (acc ++ [g d]) Q (fun d' hd => h d' (List.mem_cons_of_mem _ hd)) (by rw [List.length_append, List.length_singleton]; rw [List.length_cons] at hz; omega) ?_
    rw [List.append_assoc]
    exact q
theorem comp_all {tg : Tgt} {te : VT} {vs : List Nat} {e : En} {n : Nat} {ds : List D} {Q : Nat → List D → Prop} (g : D → D) (h : ∀ d ∈ ds, ∃ l, tg d = some l ∧ ∀ R : Nat → D → Prop, R n (g d) → te n (updE (wipeE e vs) l) R) (hz : ds.length ≤ sizeLine) (q : Q n (ds.map g)) : compL tg bYes te vs e ds [] n Q :=
  comp_go g ds [] Q h (by rw [List.length_nil, Nat.zero_add]; exact hz) q
/-- with a test -/
theorem compF_go {tg : Tgt} {tt : BT} {te : VT} {vs : List Nat} {e : En} {n : Nat} (p : D → Bool) (g : D → D) : ∀ (ds acc : List D) (Q : Nat → List D → Prop), (∀ d ∈ ds, ∃ l, tg d = some l ∧ (∀ R : Nat → Bool → Prop, R n (p d) → tt n (updE (wipeE e vs) l) R) ∧ ∀ R : Nat → D → Prop, R n (g d) → te n (updE (wipeE e vs) l) R) → acc.length + ds.length ≤ sizeLine →
    Q n (acc ++ (ds.filter p).map g) → compL tg tt te vs e ds acc n Q
  | [], acc, Q, _, _, q => by
    rw [List.filter_nil, List.map_nil, List.append_nil] at q
    exact q
  | d :: ds, acc, Q, h, hz, q => by
    obtain ⟨l, hl, h1, h2⟩ := h d List.mem_cons_self
    refine ⟨l, hl, h1 _ ?_⟩
    rw [List.length_cons] at hz
    cases e1 : p d with
    | true =>
      rw [List.filter_cons_of_pos e1] at q
      refine iteT (h2 _ ⟨by omega, ?_⟩)
      refine compF_go p g ds (acc ++ [g d]) Q (fun d' hd => h d' (List.mem_cons_of_mem _ hd)) (by rw [List.length_append, List.length_singleton]; omega) ?_
      rw [List.append_assoc]
      exact q
    | false =>
      rw [List.filter_cons_of_neg (by rw [e1]; simp)] at q
      exact iteF (compF_go p g ds acc Q (fun d' hd => h d' (List.mem_cons_of_mem _ hd)) (by omega) q)
theorem compF_all {tg : Tgt} {tt : BT} {te : VT} {vs : List Nat} {e : En} {n : Nat} {ds : List D} {Q : Nat → List D → Prop} (p : D → Bool) (g : D → D) (h : ∀ d ∈ ds, ∃ l, tg d = some l ∧ (∀ R : Nat → Bool → Prop, R n (p d) → tt n (updE (wipeE e vs) l) R) ∧ ∀ R : Nat → D → Prop, R n (g d) → te n (updE (wipeE e vs) l) R) (hz : ds.length ≤ sizeLine) (q : Q n ((ds.filter p).map g)) : compL tg tt te vs e ds [] n Q :=
  compF_go p g ds [] Q h (by rw [List.length_nil, Nat.zero_add]; exact hz) q
/-- a for loop by what holds ahead of the rest -/
theorem forL_go {tg : Tgt} {p : ST} {W : Pn} (J : List D → Nat → En → Prop) (step : ∀ (d : D) (r : List D) (n : Nat) (e : En) (N : Nat → En → Prop), (∀ n e, J r n e → N n e) → J (d :: r) n e → ∃ l, tg d = some l ∧ p { W with nx := N, ct := N, bk := W.nx } n (updE e l))
    (fin : ∀ n e, J [] n e → W.nx n e) : ∀ (ds : List D) (n : Nat) (e : En), J ds n e → forL tg p ds W n e
  | [], n, e, h => fin n e h
  | d :: r, n, e, h => by
    obtain ⟨l, hl, hp⟩ := step d r n e (forL tg p r W) (forL_go J step fin r) h
    exact ⟨l, hl, hp⟩
end PL

set_option Elab.async false
set_option linter.all false
set_option maxRecDepth 100000
set_option maxHeartbeats 4000000
/-! ## Steps of a reading -/
namespace PL
open PySem PySem.Spec PyProof.Rows L2
open Classical
theorem st_bin {o : D → D → (D → Prop) → Prop} {a c : VT} {n : Nat} {e : En} {Q : Nat → D → Prop} (h : a n e fun n1 d1 => c n1 e fun n2 d2 => o d1 d2 (Q n2)) : pBin o a c n e Q := h
theorem st_v0v {d : D} {n : Nat} {r : En} {Q : Nat → D → Prop} (h : Q n d) : pVar 0 n (.val d :: r) Q := h
theorem st_v0o {d : List D} {n : Nat} {r : En} {Q : Nat → D → Prop} (h : Q n (.list d)) : pVar 0 n (.own d :: r) Q := h
theorem st_v1v {s0 : Sl} {d : D} {n : Nat} {r : En} {Q : Nat → D → Prop} (h : Q n d) : pVar 1 n (s0 :: .val d :: r) Q := h
theorem st_v1o {s0 : Sl} {d : List D} {n : Nat} {r : En} {Q : Nat → D → Prop} (h : Q n (.list d)) : pVar 1 n (s0 :: .own d :: r) Q := h
theorem st_v2v {s0 s1 : Sl} {d : D} {n : Nat} {r : En} {Q : Nat → D → Prop} (h : Q n d) : pVar 2 n (s0 :: s1 :: .val d :: r) Q := h
theorem st_v2o {s0 s1 : Sl} {d : List D} {n : Nat} {r : En} {Q : Nat → D → Prop} (h : Q n (.list d)) : pVar 2 n (s0 :: s1 :: .own d :: r) Q := h
theorem st_v3v {s0 s1 s2 : Sl} {d : D} {n : Nat} {r : En} {Q : Nat → D → Prop} (h : Q n d) : pVar 3 n (s0 :: s1 :: s2 :: .val d :: r) Q := h
theorem st_v3o {s0 s1 s2 : Sl} {d : List D} {n : Nat} {r : En} {Q : Nat → D → Prop} (h : Q n (.list d)) : pVar 3 n (s0 :: s1 :: s2 :: .own d :: r) Q := h
theorem st_v4v {s0 s1 s2 s3 : Sl} {d : D} {n : Nat} {r : En} {Q : Nat → D → Prop} (h : Q n d) : pVar 4 n (s0 :: s1 :: s2 :: s3 :: .val d :: r) Q := h
theorem st_v4o {s0 s1 s2 s3 : Sl} {d : List D} {n : Nat} {r : En} {Q : Nat → D → Prop} (h : Q n (.list d)) : pVar 4 n (s0 :: s1 :: s2 :: s3 :: .own d :: r) Q := h
theorem st_v5v {s0 s1 s2 s3 s4 : Sl} {d : D} {n : Nat} {r : En} {Q : Nat → D → Prop} (h : Q n d) : pVar 5 n (s0 :: s1 :: s2 :: s3 :: s4 :: .val d :: r) Q := h
theorem st_v5o {s0 s1 s2 s3 s4 : Sl} {d : List D} {n : Nat} {r : En} {Q : Nat → D → Prop} (h : Q n (.list d)) : pVar 5 n (s0 :: s1 :: s2 :: s3 :: s4 :: .own d :: r) Q := h
theorem st_v6v {s0 s1 s2 s3 s4 s5 : Sl} {d : D} {n : Nat} {r : En} {Q : Nat → D → Prop} (h : Q n d) : pVar 6 n (s0 :: s1 :: s2 :: s3 :: s4 :: s5 :: .val d :: r) Q := h
theorem st_v6o {s0 s1 s2 s3 s4 s5 : Sl} {d : List D} {n : Nat} {r : En} {Q : Nat → D → Prop} (h : Q n (.list d)) : pVar 6 n (s0 :: s1 :: s2 :: s3 :: s4 :: s5 :: .own d :: r) Q := h
theorem st_v7v {s0 s1 s2 s3 s4 s5 s6 : Sl} {d : D} {n : Nat} {r : En} {Q : Nat → D → Prop} (h : Q n d) : pVar 7 n (s0 :: s1 :: s2 :: s3 :: s4 :: s5 :: s6 :: .val d :: r) Q := h
theorem st_v7o {s0 s1 s2 s3 s4 s5 s6 : Sl} {d : List D} {n : Nat} {r : En} {Q : Nat → D → Prop} (h : Q n (.list d)) : pVar 7 n (s0 :: s1 :: s2 :: s3 :: s4 :: s5 :: s6 :: .own d :: r) Q := h
theorem st_v8v {s0 s1 s2 s3 s4 s5 s6 s7 : Sl} {d : D} {n : Nat} {r : En} {Q : Nat → D → Prop} (h : Q n d) : pVar 8 n (s0 :: s1 :: s2 :: s3 :: s4 :: s5 :: s6 :: s7 :: .val d :: r) Q := h
theorem st_v8o {s0 s1 s2 s3 s4 s5 s6 s7 : Sl} {d : List D} {n : Nat} {r : En} {Q : Nat → D → Prop} (h : Q n (.list d)) : pVar 8 n (s0 :: s1 :: s2 :: s3 :: s4 :: s5 :: s6 :: s7 :: .own d :: r) Q := h
theorem st_v9v {s0 s1 s2 s3 s4 s5 s6 s7 s8 : Sl} {d : D} {n : Nat} {r : En} {Q : Nat → D → Prop} (h : Q n d) : pVar 9 n (s0 :: s1 :: s2 :: s3 :: s4 :: s5 :: s6 :: s7 :: s8 :: .val d :: r) Q := h
theorem st_v9o {s0 s1 s2 s3 s4 s5 s6 s7 s8 : Sl} {d : List D} {n : Nat} {r : En} {Q : Nat → D → Prop} (h : Q n (.list d)) : pVar 9 n (s0 :: s1 :: s2 :: s3 :: s4 :: s5 :: s6 :: s7 :: s8 :: .own d :: r) Q := h
theorem st_v10v {s0 s1 s2 s3 s4 s5 s6 s7 s8 s9 : Sl} {d : D} {n : Nat} {r : En} {Q : Nat → D → Prop} (h : Q n d) : pVar 10 n (s0 :: s1 :: s2 :: s3 :: s4 :: s5 :: s6 :: s7 :: s8 :: s9 :: .val d :: r) Q := h
theorem st_v10o {s0 s1 s2 s3 s4 s5 s6 s7 s8 s9 : Sl} {d : List D} {n : Nat} {r : En} {Q : Nat → D → Prop} (h : Q n (.list d)) : pVar 10 n (s0 :: s1 :: s2 :: s3 :: s4 :: s5 :: s6 :: s7 :: s8 :: s9 :: .own d :: r) Q := h
theorem st_v11v {s0 s1 s2 s3 s4 s5 s6 s7 s8 s9 s10 : Sl} {d : D} {n : Nat} {r : En} {Q : Nat → D → Prop} (h : Q n d) : pVar 11 n (s0 :: s1 :: s2 :: s3 :: s4 :: s5 :: s6 :: s7 :: s8 :: s9 :: s10 :: .val d :: r) Q := h
theorem st_v11o {s0 s1 s2 s3 s4 s5 s6 s7 s8 s9 s10 : Sl} {d : List D} {n : Nat} {r : En} {Q : Nat → D → Prop} (h : Q n (.list d)) : pVar 11 n (s0 :: s1 :: s2 :: s3 :: s4 :: s5 :: s6 :: s7 :: s8 :: s9 :: s10 :: .own d :: r) Q := h
theorem st_v12v {s0 s1 s2 s3 s4 s5 s6 s7 s8 s9 s10 s11 : Sl} {d : D} {n : Nat} {r : En} {Q : Nat → D → Prop} (h : Q n d) : pVar 12 n (s0 :: s1 :: s2 :: s3 :: s4 :: s5 :: s6 :: s7 :: s8 :: s9 :: s10 :: s11 :: .val d :: r) Q := h
theorem st_v12o {s0 s1 s2 s3 s4 s5 s6 s7 s8 s9 s10 s11 : Sl} {d : List D} {n : Nat} {r : En} {Q : Nat → D → Prop} (h : Q n (.list d)) : pVar 12 n (s0 :: s1 :: s2 :: s3 :: s4 :: s5 :: s6 :: s7 :: s8 :: s9 :: s10 :: s11 :: .own d :: r) Q := h
theorem st_v13v {s0 s1 s2 s3 s4 s5 s6 s7 s8 s9 s10 s11 s12 : Sl} {d : D} {n : Nat} {r : En} {Q : Nat → D → Prop} (h : Q n d) : pVar 13 n (s0 :: s1 :: s2 :: s3 :: s4 :: s5 :: s6 :: s7 :: s8 :: s9 :: s10 :: s11 :: s12 :: .val d :: r) Q := h
theorem st_v13o {s0 s1 s2 s3 s4 s5 s6 s7 s8 s9 s10 s11 s12 : Sl} {d : List D} {n : Nat} {r : En} {Q : Nat → D → Prop} (h : Q n (.list d)) : pVar 13 n (s0 :: s1 :: s2 :: s3 :: s4 :: s5 :: s6 :: s7 :: s8 :: s9 :: s10 :: s11 :: s12 :: .own d :: r) Q := h
theorem st_v14v {s0 s1 s2 s3 s4 s5 s6 s7 s8 s9 s10 s11 s12 s13 : Sl} {d : D} {n : Nat} {r : En} {Q : Nat → D → Prop} (h : Q n d) : pVar 14 n (s0 :: s1 :: s2 :: s3 :: s4 :: s5 :: s6 :: s7 :: s8 :: s9 :: s10 :: s11 :: s12 :: s13 :: .val d :: r) Q := h
theorem st_v14o {s0 s1 s2 s3 s4 s5 s6 s7 s8 s9 s10 s11 s12 s13 : Sl} {d : List D} {n : Nat} {r : En} {Q : Nat → D → Prop} (h : Q n (.list d)) : pVar 14 n (s0 :: s1 :: s2 :: s3 :: s4 :: s5 :: s6 :: s7 :: s8 :: s9 :: s10 :: s11 :: s12 :: s13 :: .own d :: r) Q := h
theorem st_v15v {s0 s1 s2 s3 s4 s5 s6 s7 s8 s9 s10 s11 s12 s13 s14 : Sl} {d : D} {n : Nat} {r : En} {Q : Nat → D → Prop} (h : Q n d) : pVar 15 n (s0 :: s1 :: s2 :: s3 :: s4 :: s5 :: s6 :: s7 :: s8 :: s9 :: s10 :: s11 :: s12 :: s13 :: s14 :: .val d :: r) Q := h
theorem st_v15o {s0 s1 s2 s3 s4 s5 s6 s7 s8 s9 s10 s11 s12 s13 s14 : Sl} {d : List D} {n : Nat} {r : En} {Q : Nat → D → Prop} (h : Q n (.list d)) : pVar 15 n (s0 :: s1 :: s2 :: s3 :: s4 :: s5 :: s6 :: s7 :: s8 :: s9 :: s10 :: s11 :: s12 :: s13 :: s14 :: .own d :: r) Q := h
theorem st_C {d : D} {n : Nat} {e : En} {Q : Nat → D → Prop} (h : Q n d) : pC d n e Q := h
theorem st_cons {a : VT} {r : AT} {n : Nat} {e : En} {Q : Nat → List D → Prop} (h : a n e fun n1 d => r n1 e fun n2 ds => Q n2 (d :: ds)) : pCons a r n e Q := h
theorem st_nil {n : Nat} {e : En} {Q : Nat → List D → Prop} (h : Q n []) : pNil n e Q := h
theorem st_ca {o : List D → (D → Prop) → Prop} {a : AT} {n : Nat} {e : En} {Q : Nat → D → Prop} (h : a n e fun n1 ds => o ds (Q n1)) : pCa o a n e Q := h
theorem st_bval {p : VT} {n : Nat} {e : En} {Q : Nat → Bool → Prop} (h : p n e fun n1 d => ∃ c, d = .bool c ∧ Q n1 c) : bVal p n e Q := h
theorem st_exb {x : Bool} {P : Bool → Prop} (h : P x) : ∃ c, PyData.bool x = .bool c ∧ P c := ⟨x, rfl, h⟩
theorem st_exi {x : Int} {P : Int → Prop} (h : P x) : ∃ c, PyData.int x = .int c ∧ P c := ⟨x, rfl, h⟩
theorem st_exs {x : PySem.Str} {P : PySem.Str → Prop} (h : P x) : ∃ c, PyData.str x = .str c ∧ P c := ⟨x, rfl, h⟩
theorem st_exl {x : List D} {P : List D → Prop} (h : P x) : ∃ c, PyData.list x = .list c ∧ P c := ⟨x, rfl, h⟩
theorem st_exil {x : List D} {P : List D → Prop} (h : P x) : ∃ ds, items (.list x) = some ds ∧ P ds := ⟨x, rfl, h⟩
theorem st_exit {x : List D} {P : List D → Prop} (h : P x) : ∃ ds, items (.tuple x) = some ds ∧ P ds := ⟨x, rfl, h⟩
theorem st_exiz {x : PySem.Str} {P : List D → Prop} (h : P (signs x)) : ∃ ds, items (.str x) = some ds ∧ P ds := ⟨signs x, rfl, h⟩
theorem st_seq {p q : ST} {W : Pn} {n : Nat} {e : En} (h : p { W with nx := q W } n e) : sSeq p q W n e := h
theorem st_iT {A B : Prop} (h : A) : if true = true then A else B := iteT h
theorem st_iF {A B : Prop} (h : B) : if false = true then A else B := iteF h
theorem st_z0 {P : Prop} (h : P) : (List.nil : List D).length ≤ sizeLine ∧ P := ⟨Nat.le_trans (by decide : 0 ≤ 1000) (by decide), h⟩
theorem st_k0 {P : Prop} (h : P) : (List.nil : List D).length = 0 ∧ P := ⟨rfl, h⟩
theorem st_z1 {a0 : D} {P : Prop} (h : P) : [a0].length ≤ sizeLine ∧ P := ⟨Nat.le_trans (by decide : 1 ≤ 1000) (by decide), h⟩
theorem st_k1 {a0 : D} {P : Prop} (h : P) : [a0].length = 1 ∧ P := ⟨rfl, h⟩
theorem st_z2 {a0 a1 : D} {P : Prop} (h : P) : [a0, a1].length ≤ sizeLine ∧ P := ⟨Nat.le_trans (by decide : 2 ≤ 1000) (by decide), h⟩
theorem st_k2 {a0 a1 : D} {P : Prop} (h : P) : [a0, a1].length = 2 ∧ P := ⟨rfl, h⟩
theorem st_z3 {a0 a1 a2 : D} {P : Prop} (h : P) : [a0, a1, a2].length ≤ sizeLine ∧ P := ⟨Nat.le_trans (by decide : 3 ≤ 1000) (by decide), h⟩
theorem st_k3 {a0 a1 a2 : D} {P : Prop} (h : P) : [a0, a1, a2].length = 3 ∧ P := ⟨rfl, h⟩
theorem st_z4 {a0 a1 a2 a3 : D} {P : Prop} (h : P) : [a0, a1, a2, a3].length ≤ sizeLine ∧ P := ⟨Nat.le_trans (by decide : 4 ≤ 1000) (by decide), h⟩
theorem st_z5 {a0 a1 a2 a3 a4 : D} {P : Prop} (h : P) : [a0, a1, a2, a3, a4].length ≤ sizeLine ∧ P := ⟨Nat.le_trans (by decide : 5 ≤ 1000) (by decide), h⟩
theorem st_z6 {a0 a1 a2 a3 a4 a5 : D} {P : Prop} (h : P) : [a0, a1, a2, a3, a4, a5].length ≤ sizeLine ∧ P := ⟨Nat.le_trans (by decide : 6 ≤ 1000) (by decide), h⟩
theorem st_z7 {a0 a1 a2 a3 a4 a5 a6 : D} {P : Prop} (h : P) : [a0, a1, a2, a3, a4, a5, a6].length ≤ sizeLine ∧ P := ⟨Nat.le_trans (by decide : 7 ≤ 1000) (by decide), h⟩
theorem st_z8 {a0 a1 a2 a3 a4 a5 a6 a7 : D} {P : Prop} (h : P) : [a0, a1, a2, a3, a4, a5, a6, a7].length ≤ sizeLine ∧ P := ⟨Nat.le_trans (by decide : 8 ≤ 1000) (by decide), h⟩
theorem st_z9 {a0 a1 a2 a3 a4 a5 a6 a7 a8 : D} {P : Prop} (h : P) : [a0, a1, a2, a3, a4, a5, a6, a7, a8].length ≤ sizeLine ∧ P := ⟨Nat.le_trans (by decide : 9 ≤ 1000) (by decide), h⟩
theorem st_z10 {a0 a1 a2 a3 a4 a5 a6 a7 a8 a9 : D} {P : Prop} (h : P) : [a0, a1, a2, a3, a4, a5, a6, a7, a8, a9].length ≤ sizeLine ∧ P := ⟨Nat.le_trans (by decide : 10 ≤ 1000) (by decide), h⟩
theorem st_z11 {a0 a1 a2 a3 a4 a5 a6 a7 a8 a9 a10 : D} {P : Prop} (h : P) : [a0, a1, a2, a3, a4, a5, a6, a7, a8, a9, a10].length ≤ sizeLine ∧ P := ⟨Nat.le_trans (by decide : 11 ≤ 1000) (by decide), h⟩
theorem st_z12 {a0 a1 a2 a3 a4 a5 a6 a7 a8 a9 a10 a11 : D} {P : Prop} (h : P) : [a0, a1, a2, a3, a4, a5, a6, a7, a8, a9, a10, a11].length ≤ sizeLine ∧ P := ⟨Nat.le_trans (by decide : 12 ≤ 1000) (by decide), h⟩
theorem st_z13 {a0 a1 a2 a3 a4 a5 a6 a7 a8 a9 a10 a11 a12 : D} {P : Prop} (h : P) : [a0, a1, a2, a3, a4, a5, a6, a7, a8, a9, a10, a11, a12].length ≤ sizeLine ∧ P := ⟨Nat.le_trans (by decide : 13 ≤ 1000) (by decide), h⟩
theorem st_z14 {a0 a1 a2 a3 a4 a5 a6 a7 a8 a9 a10 a11 a12 a13 : D} {P : Prop} (h : P) : [a0, a1, a2, a3, a4, a5, a6, a7, a8, a9, a10, a11, a12, a13].length ≤ sizeLine ∧ P := ⟨Nat.le_trans (by decide : 14 ≤ 1000) (by decide), h⟩
theorem st_z15 {a0 a1 a2 a3 a4 a5 a6 a7 a8 a9 a10 a11 a12 a13 a14 : D} {P : Prop} (h : P) : [a0, a1, a2, a3, a4, a5, a6, a7, a8, a9, a10, a11, a12, a13, a14].length ≤ sizeLine ∧ P := ⟨Nat.le_trans (by decide : 15 ≤ 1000) (by decide), h⟩
theorem st_z16 {a0 a1 a2 a3 a4 a5 a6 a7 a8 a9 a10 a11 a12 a13 a14 a15 : D} {P : Prop} (h : P) : [a0, a1, a2, a3, a4, a5, a6, a7, a8, a9, a10, a11, a12, a13, a14, a15].length ≤ sizeLine ∧ P := ⟨Nat.le_trans (by decide : 16 ≤ 1000) (by decide), h⟩
theorem st_z17 {a0 a1 a2 a3 a4 a5 a6 a7 a8 a9 a10 a11 a12 a13 a14 a15 a16 : D} {P : Prop} (h : P) : [a0, a1, a2, a3, a4, a5, a6, a7, a8, a9, a10, a11, a12, a13, a14, a15, a16].length ≤ sizeLine ∧ P := ⟨Nat.le_trans (by decide : 17 ≤ 1000) (by decide), h⟩
theorem st_z18 {a0 a1 a2 a3 a4 a5 a6 a7 a8 a9 a10 a11 a12 a13 a14 a15 a16 a17 : D} {P : Prop} (h : P) : [a0, a1, a2, a3, a4, a5, a6, a7, a8, a9, a10, a11, a12, a13, a14, a15, a16, a17].length ≤ sizeLine ∧ P := ⟨Nat.le_trans (by decide : 18 ≤ 1000) (by decide), h⟩
theorem st_z19 {a0 a1 a2 a3 a4 a5 a6 a7 a8 a9 a10 a11 a12 a13 a14 a15 a16 a17 a18 : D} {P : Prop} (h : P) : [a0, a1, a2, a3, a4, a5, a6, a7, a8, a9, a10, a11, a12, a13, a14, a15, a16, a17, a18].length ≤ sizeLine ∧ P := ⟨Nat.le_trans (by decide : 19 ≤ 1000) (by decide), h⟩
theorem st_z20 {a0 a1 a2 a3 a4 a5 a6 a7 a8 a9 a10 a11 a12 a13 a14 a15 a16 a17 a18 a19 : D} {P : Prop} (h : P) : [a0, a1, a2, a3, a4, a5, a6, a7, a8, a9, a10, a11, a12, a13, a14, a15, a16, a17, a18, a19].length ≤ sizeLine ∧ P := ⟨Nat.le_trans (by decide : 20 ≤ 1000) (by decide), h⟩
theorem st_z21 {a0 a1 a2 a3 a4 a5 a6 a7 a8 a9 a10 a11 a12 a13 a14 a15 a16 a17 a18 a19 a20 : D} {P : Prop} (h : P) : [a0, a1, a2, a3, a4, a5, a6, a7, a8, a9, a10, a11, a12, a13, a14, a15, a16, a17, a18, a19, a20].length ≤ sizeLine ∧ P := ⟨Nat.le_trans (by decide : 21 ≤ 1000) (by decide), h⟩
theorem st_z22 {a0 a1 a2 a3 a4 a5 a6 a7 a8 a9 a10 a11 a12 a13 a14 a15 a16 a17 a18 a19 a20 a21 : D} {P : Prop} (h : P) : [a0, a1, a2, a3, a4, a5, a6, a7, a8, a9, a10, a11, a12, a13, a14, a15, a16, a17, a18, a19, a20, a21].length ≤ sizeLine ∧ P := ⟨Nat.le_trans (by decide : 22 ≤ 1000) (by decide), h⟩
theorem st_z23 {a0 a1 a2 a3 a4 a5 a6 a7 a8 a9 a10 a11 a12 a13 a14 a15 a16 a17 a18 a19 a20 a21 a22 : D} {P : Prop} (h : P) : [a0, a1, a2, a3, a4, a5, a6, a7, a8, a9, a10, a11, a12, a13, a14, a15, a16, a17, a18, a19, a20, a21, a22].length ≤ sizeLine ∧ P := ⟨Nat.le_trans (by decide : 23 ≤ 1000) (by decide), h⟩
theorem st_z24 {a0 a1 a2 a3 a4 a5 a6 a7 a8 a9 a10 a11 a12 a13 a14 a15 a16 a17 a18 a19 a20 a21 a22 a23 : D} {P : Prop} (h : P) : [a0, a1, a2, a3, a4, a5, a6, a7, a8, a9, a10, a11, a12, a13, a14, a15, a16, a17, a18, a19, a20, a21, a22, a23].length ≤ sizeLine ∧ P := ⟨Nat.le_trans (by decide : 24 ≤ 1000) (by decide), h⟩
theorem st_ret {p : RT} {W : Pn} {n : Nat} {e : En} (h : p n e fun n1 r => W.rt n1 r) : sRet p W n e := h
theorem st_rV {p : VT} {n : Nat} {e : En} {Q : Nat → Rv → Prop} (h : p n e fun n1 d => Q n1 (.val d)) : rV p n e Q := h
theorem st_rO {p : OT} {n : Nat} {e : En} {Q : Nat → Rv → Prop} (h : p n e fun n1 d => Q n1 (.own d)) : rO p n e Q := h
theorem st_vR {p : RT} {n : Nat} {e : En} {Q : Nat → D → Prop} (h : p n e fun n1 r => Q n1 r.d) : vR p n e Q := h
theorem st_call {Φ : FT} {j : Nat} {a : AT} {n : Nat} {e : En} {Q : Nat → Rv → Prop} (h : a n e fun n1 ds => ds.length = j ∧ Φ ds fun r => Q n1 r) : rCall Φ j a n e Q := h
theorem st_set {i : Nat} {p : RT} {W : Pn} {n : Nat} {e : En} (h : p n e fun n1 r => W.nx n1 ((keepR e r).set i r.sl)) : sSet i p W n e := h
theorem st_if {c : BT} {p q : ST} {W : Pn} {n : Nat} {e : En} (h : c n e fun n1 k => if k = true then p W n1 e else q W n1 e) : sIf c p q W n e := h
theorem st_lt {i j : Int} {Q : D → Prop} (h : Q (.bool (decide (i < j)))) : oLt (.int i) (.int j) Q := h
theorem st_le {i j : Int} {Q : D → Prop} (h : Q (.bool (decide (i ≤ j)))) : oLe (.int i) (.int j) Q := h
theorem st_gt {i j : Int} {Q : D → Prop} (h : Q (.bool (decide (j < i)))) : oGt (.int i) (.int j) Q := h
theorem st_ge {i j : Int} {Q : D → Prop} (h : Q (.bool (decide (j ≤ i)))) : oGe (.int i) (.int j) Q := h
theorem st_eqi {i j : Int} {Q : D → Prop} (h : Q (.bool (decide (i = j)))) : oEq (.int i) (.int j) Q := ⟨shaped_int i, shaped_int j, by rw [eqv_int]; exact h⟩
theorem st_nei {i j : Int} {Q : D → Prop} (h : Q (.bool (!decide (i = j)))) : oNe (.int i) (.int j) Q := ⟨shaped_int i, shaped_int j, by rw [eqv_int]; exact h⟩
theorem st_eqs {x y : PySem.Str} {Q : D → Prop} (h : Q (.bool (decide (x = y)))) : oEqS (.str x) (.str y) Q := h
theorem st_nes {x y : PySem.Str} {Q : D → Prop} (h : Q (.bool (!decide (x = y)))) : oNeS (.str x) (.str y) Q := h
theorem st_add {i j : Int} {Q : D → Prop} (h : Q (.int (i + j))) : oAdd (.int i) (.int j) Q := h
theorem st_sub {i j : Int} {Q : D → Prop} (h : Q (.int (i - j))) : oSub (.int i) (.int j) Q := h
theorem st_is {d : D} {Q : D → Prop} (h : Q (.bool (isN d))) : oIs d .none Q := ⟨rfl, h⟩
theorem st_isnot {d : D} {Q : D → Prop} (h : Q (.bool (!isN d))) : oIsNot d .none Q := ⟨rfl, h⟩
theorem st_ix0l {x : D} {xs : List D} {Q : D → Prop} (h : Q x) : oIx (.list (x :: xs)) (.int 0) Q := ⟨x, atI_zero _ _, h⟩
theorem st_ix0t {x : D} {xs : List D} {Q : D → Prop} (h : Q x) : oIx (.tuple (x :: xs)) (.int 0) Q := ⟨x, atI_zero _ _, h⟩
theorem st_ix1l {a0 : D} {x : D} {xs : List D} {Q : D → Prop} (h : Q x) : oIx (.list (a0 :: x :: xs)) (.int 1) Q := ⟨x, atI_one _ _ _, h⟩
theorem st_ix1t {a0 : D} {x : D} {xs : List D} {Q : D → Prop} (h : Q x) : oIx (.tuple (a0 :: x :: xs)) (.int 1) Q := ⟨x, atI_one _ _ _, h⟩
theorem st_ix2l {a0 a1 : D} {x : D} {xs : List D} {Q : D → Prop} (h : Q x) : oIx (.list (a0 :: a1 :: x :: xs)) (.int 2) Q := ⟨x, atI_two _ _ _ _, h⟩
theorem st_ix2t {a0 a1 : D} {x : D} {xs : List D} {Q : D → Prop} (h : Q x) : oIx (.tuple (a0 :: a1 :: x :: xs)) (.int 2) Q := ⟨x, atI_two _ _ _ _, h⟩
theorem st_len0l {Q : D → Prop} (h : Q (.int 0)) : oLen [.list []] Q := h
theorem st_len0t {Q : D → Prop} (h : Q (.int 0)) : oLen [.tuple []] Q := h
theorem st_len1l {a0 : D} {Q : D → Prop} (h : Q (.int 1)) : oLen [.list [a0]] Q := h
theorem st_len1t {a0 : D} {Q : D → Prop} (h : Q (.int 1)) : oLen [.tuple [a0]] Q := h
theorem st_len2l {a0 a1 : D} {Q : D → Prop} (h : Q (.int 2)) : oLen [.list [a0, a1]] Q := h
theorem st_len2t {a0 a1 : D} {Q : D → Prop} (h : Q (.int 2)) : oLen [.tuple [a0, a1]] Q := h
theorem st_len3l {a0 a1 a2 : D} {Q : D → Prop} (h : Q (.int 3)) : oLen [.list [a0, a1, a2]] Q := h
theorem st_len3t {a0 a1 a2 : D} {Q : D → Prop} (h : Q (.int 3)) : oLen [.tuple [a0, a1, a2]] Q := h
theorem st_len4l {a0 a1 a2 a3 : D} {Q : D → Prop} (h : Q (.int 4)) : oLen [.list [a0, a1, a2, a3]] Q := h
theorem st_len4t {a0 a1 a2 a3 : D} {Q : D → Prop} (h : Q (.int 4)) : oLen [.tuple [a0, a1, a2, a3]] Q := h
theorem st_lenl {xs : List D} {Q : D → Prop} (h : Q (.int xs.length)) : oLen [.list xs] Q := h
theorem st_lent {xs : List D} {Q : D → Prop} (h : Q (.int xs.length)) : oLen [.tuple xs] Q := h
theorem st_abs {i : Int} {Q : D → Prop} (h : Q (.int i.natAbs)) : oAbs [.int i] Q := h
theorem st_inti {i : Int} {Q : D → Prop} (h : Q (.int i)) : oInt [.int i] Q := h
theorem st_intb {c : Bool} {Q : D → Prop} (h : Q (.int (if c then 1 else 0))) : oInt [.bool c] Q := h
theorem st_tupl {xs : List D} {Q : D → Prop} (h : Q (.tuple xs)) : oTuple [.list xs] Q := h
theorem st_tupt {xs : List D} {Q : D → Prop} (h : Q (.tuple xs)) : oTuple [.tuple xs] Q := h
theorem st_listl {xs : List D} {Q : List D → Prop} (h : Q xs) : oList [.list xs] Q := h
theorem st_listt {xs : List D} {Q : List D → Prop} (h : Q xs) : oList [.tuple xs] Q := h
theorem st_strs {z : PySem.Str} {Q : D → Prop} (h : Q (.str z)) : oStr [.str z] Q := h
theorem st_max {i j : Int} {Q : D → Prop} (h : Q (.int (max i j))) : oMax2 [.int i, .int j] Q := h
theorem st_min {i j : Int} {Q : D → Prop} (h : Q (.int (min i j))) : oMin2 [.int i, .int j] Q := h
theorem st_gcd {i j : Int} {Q : D → Prop} (h : Q (.int (Nat.gcd i.natAbs j.natAbs : Nat))) : oGcd [.int i, .int j] Q := h
theorem st_neg {p : VT} {n : Nat} {e : En} {Q : Nat → D → Prop} (h : p n e fun n1 d => ∃ i, d = .int i ∧ Q n1 (.int (-i))) : oNeg p n e Q := h
theorem st_tup {a : AT} {n : Nat} {e : En} {Q : Nat → D → Prop} (h : a n e fun n1 ds => ds.length ≤ sizeLine ∧ Q n1 (.tuple ds)) : pTup a n e Q := h
theorem st_lst {a : AT} {n : Nat} {e : En} {Q : Nat → List D → Prop} (h : a n e fun n1 ds => ds.length ≤ sizeLine ∧ Q n1 ds) : oLst a n e Q := h
theorem st_not {p : BT} {n : Nat} {e : En} {Q : Nat → Bool → Prop} (h : p n e fun n1 c => Q n1 (!c)) : bNot p n e Q := h
theorem st_and {p q : BT} {n : Nat} {e : En} {Q : Nat → Bool → Prop} (h : p n e fun n1 c => if c = true then q n1 e Q else Q n1 false) : bAnd p q n e Q := h
theorem st_or {p q : BT} {n : Nat} {e : En} {Q : Nat → Bool → Prop} (h : p n e fun n1 c => if c = true then Q n1 true else q n1 e Q) : bOr p q n e Q := h
theorem st_pnot {p : VT} {n : Nat} {e : En} {Q : Nat → D → Prop} (h : p n e fun n1 d => ∃ c, d = .bool c ∧ Q n1 (.bool (!c))) : pNot p n e Q := h
theorem st_pand {p q : VT} {n : Nat} {e : En} {Q : Nat → D → Prop} (h : p n e fun n1 d => ∃ c, d = .bool c ∧ if c = true then q n1 e Q else Q n1 (.bool false)) : pAnd p q n e Q := h
theorem st_por {p q : VT} {n : Nat} {e : En} {Q : Nat → D → Prop} (h : p n e fun n1 d => ∃ c, d = .bool c ∧ if c = true then Q n1 (.bool true) else q n1 e Q) : pOr p q n e Q := h
theorem st_pif {t : BT} {p q : VT} {n : Nat} {e : En} {Q : Nat → D → Prop} (h : t n e fun n1 c => if c = true then p n1 e Q else q n1 e Q) : pIf t p q n e Q := h
theorem st_chain {o o2 : D → D → (D → Prop) → Prop} {a b c : VT} {n : Nat} {e : En} {Q : Nat → D → Prop} (h : a n e fun n1 d1 => b n1 e fun n2 d2 => o d1 d2 fun z => ∃ k, z = .bool k ∧ (if k = true then c n2 e fun n3 d3 => o2 d2 d3 (Q n3) else Q n2 (.bool false))) : pChain o o2 a b c n e Q := h
theorem st_isi {T : String} {p : VT} {n : Nat} {e : En} {Q : Nat → D → Prop} (h : p n e fun n1 d => Q n1 (.bool (isT T d))) : pIsi T p n e Q := h
theorem st_m1 {o : PySem.Str → D → (D → Prop) → Prop} {a c : VT} {n : Nat} {e : En} {Q : Nat → D → Prop} (h : a n e fun n1 d1 => ∃ z, d1 = .str z ∧ c n1 e fun n2 d2 => o z d2 (Q n2)) : pM1 o a c n e Q := h
theorem st_next {W : Pn} {n : Nat} {e : En} (h : W.nx n e) : sNext W n e := h
theorem st_break {W : Pn} {n : Nat} {e : En} (h : W.bk n e) : sBreak W n e := h
theorem st_cont {W : Pn} {n : Nat} {e : En} (h : W.ct n e) : sCont W n e := h
theorem st_retN {W : Pn} {n : Nat} {e : En} (h : W.rt n (.val .none)) : sRetN W n e := h
theorem st_r0v {d : D} {W : Pn} {n : Nat} {r : En} (h : W.rt n (.val d)) : sRetV 0 W n (.val d :: r) := h
theorem st_r0o {d : List D} {W : Pn} {n : Nat} {r : En} (h : W.rt n (.own d)) : sRetV 0 W n (.own d :: r) := h
theorem st_m0v {d : D} {n : Nat} {r : En} {Q : Nat → En → D → Prop} (h : Q n (.val d :: r) d) : mVar 0 n (.val d :: r) Q := h
theorem st_m0o {d : List D} {n : Nat} {r : En} {Q : Nat → En → D → Prop} (h : Q n (.val (.list d) :: r) (.list d)) : mVar 0 n (.own d :: r) Q := h
theorem st_app0 {d0 : List D} {p : MT} {W : Pn} {n : Nat} {r : En} (h : p n (.own d0 :: r) fun n1 e1 d => ∃ ds, e1[0]? = some (.own ds) ∧ ds.length < sizeLine ∧ W.nx n1 (e1.set 0 (.own (ds ++ [d])))) : sApp 0 p W n (.own d0 :: r) := ⟨d0, rfl, h⟩
theorem st_ext0 {d0 : List D} {p : MT} {W : Pn} {n : Nat} {r : En} (h : p n (.own d0 :: r) fun n1 e1 d => ∃ ds es, d = .list es ∧ e1[0]? = some (.own ds) ∧ ds.length + es.length ≤ sizeLine ∧ W.nx n1 (e1.set 0 (.own (ds ++ es)))) : sExt 0 p W n (.own d0 :: r) := ⟨d0, rfl, h⟩
theorem st_gown0 {d : List D} {r : En} {P : List D → Prop} (h : P d) : ∃ ds, (Sl.own d :: r)[0]? = some (.own ds) ∧ P ds := ⟨d, rfl, h⟩
theorem st_gext0 {d x : List D} {r : En} {P : List D → List D → Prop} (h : P d x) : ∃ ds es, PyData.list x = .list es ∧ (Sl.own d :: r)[0]? = some (.own ds) ∧ P ds es := ⟨d, x, rfl, rfl, h⟩
theorem st_d0 {Ψ : FD} {j : Nat} {a : AT} {n : Nat} {r : En} {Q : Nat → Rv → Prop} (h : a n (.pot :: r) fun n1 ds => ds.length = j ∧ Ψ n1 ds Q) : rCallD 0 Ψ j a n (.pot :: r) Q := ⟨rfl, h⟩
theorem st_p00 {n : Nat} {r : En} {Q : Nat → D → Prop} (h : ∀ x : Int, 0 ≤ x → x < 10 ^ 300 → Q n (.int x)) : pPot0 0 n (.pot :: r) Q := ⟨rfl, h⟩
theorem st_p10 {n : Nat} {r : En} {Q : Nat → D → Prop} (h : ∀ x : Int, 0 ≤ x → x < 2305843009213693921 → Q n (.int x)) : pPot1 0 n (.pot :: r) Q := ⟨rfl, h⟩
theorem st_p20 {n : Nat} {r : En} {Q : Nat → D → Prop} (h : ∀ x : Int, 0 ≤ x → x ≤ n → Q n (.int x)) : pPot2 0 n (.pot :: r) Q := ⟨rfl, h⟩
theorem st_w00 {a : VT} {W : Pn} {n : Nat} {r : En} (h : a n (.pot :: r) fun n1 d => ∃ x, d = .int x ∧ 0 ≤ x ∧ x < 10 ^ 300 ∧ W.nx n1 (.pot :: r)) : sPot0 0 a W n (.pot :: r) := ⟨rfl, h⟩
theorem st_w20 {a : VT} {W : Pn} {n : Nat} {r : En} (h : a n (.pot :: r) fun n1 d => ∃ (z : Int) (n2 : Nat), d = .int z ∧ 0 ≤ z ∧ z ≤ n2 ∧ W.nx n2 (.pot :: r)) : sPot2 0 a W n (.pot :: r) := ⟨rfl, h⟩
theorem st_r1v {s0 : Sl} {d : D} {W : Pn} {n : Nat} {r : En} (h : W.rt n (.val d)) : sRetV 1 W n (s0 :: .val d :: r) := h
theorem st_r1o {s0 : Sl} {d : List D} {W : Pn} {n : Nat} {r : En} (h : W.rt n (.own d)) : sRetV 1 W n (s0 :: .own d :: r) := h
theorem st_m1v {s0 : Sl} {d : D} {n : Nat} {r : En} {Q : Nat → En → D → Prop} (h : Q n (s0 :: .val d :: r) d) : mVar 1 n (s0 :: .val d :: r) Q := h
theorem st_m1o {s0 : Sl} {d : List D} {n : Nat} {r : En} {Q : Nat → En → D → Prop} (h : Q n (s0 :: .val (.list d) :: r) (.list d)) : mVar 1 n (s0 :: .own d :: r) Q := h
theorem st_app1 {s0 : Sl} {d0 : List D} {p : MT} {W : Pn} {n : Nat} {r : En} (h : p n (s0 :: .own d0 :: r) fun n1 e1 d => ∃ ds, e1[1]? = some (.own ds) ∧ ds.length < sizeLine ∧ W.nx n1 (e1.set 1 (.own (ds ++ [d])))) : sApp 1 p W n (s0 :: .own d0 :: r) := ⟨d0, rfl, h⟩
theorem st_ext1 {s0 : Sl} {d0 : List D} {p : MT} {W : Pn} {n : Nat} {r : En} (h : p n (s0 :: .own d0 :: r) fun n1 e1 d => ∃ ds es, d = .list es ∧ e1[1]? = some (.own ds) ∧ ds.length + es.length ≤ sizeLine ∧ W.nx n1 (e1.set 1 (.own (ds ++ es)))) : sExt 1 p W n (s0 :: .own d0 :: r) := ⟨d0, rfl, h⟩
theorem st_gown1 {s0 : Sl} {d : List D} {r : En} {P : List D → Prop} (h : P d) : ∃ ds, (s0 :: Sl.own d :: r)[1]? = some (.own ds) ∧ P ds := ⟨d, rfl, h⟩
theorem st_gext1 {s0 : Sl} {d x : List D} {r : En} {P : List D → List D → Prop} (h : P d x) : ∃ ds es, PyData.list x = .list es ∧ (s0 :: Sl.own d :: r)[1]? = some (.own ds) ∧ P ds es := ⟨d, x, rfl, rfl, h⟩
theorem st_d1 {s0 : Sl} {Ψ : FD} {j : Nat} {a : AT} {n : Nat} {r : En} {Q : Nat → Rv → Prop} (h : a n (s0 :: .pot :: r) fun n1 ds => ds.length = j ∧ Ψ n1 ds Q) : rCallD 1 Ψ j a n (s0 :: .pot :: r) Q := ⟨rfl, h⟩
theorem st_p01 {s0 : Sl} {n : Nat} {r : En} {Q : Nat → D → Prop} (h : ∀ x : Int, 0 ≤ x → x < 10 ^ 300 → Q n (.int x)) : pPot0 1 n (s0 :: .pot :: r) Q := ⟨rfl, h⟩
theorem st_p11 {s0 : Sl} {n : Nat} {r : En} {Q : Nat → D → Prop} (h : ∀ x : Int, 0 ≤ x → x < 2305843009213693921 → Q n (.int x)) : pPot1 1 n (s0 :: .pot :: r) Q := ⟨rfl, h⟩
theorem st_p21 {s0 : Sl} {n : Nat} {r : En} {Q : Nat → D → Prop} (h : ∀ x : Int, 0 ≤ x → x ≤ n → Q n (.int x)) : pPot2 1 n (s0 :: .pot :: r) Q := ⟨rfl, h⟩
theorem st_w01 {s0 : Sl} {a : VT} {W : Pn} {n : Nat} {r : En} (h : a n (s0 :: .pot :: r) fun n1 d => ∃ x, d = .int x ∧ 0 ≤ x ∧ x < 10 ^ 300 ∧ W.nx n1 (s0 :: .pot :: r)) : sPot0 1 a W n (s0 :: .pot :: r) := ⟨rfl, h⟩
theorem st_w21 {s0 : Sl} {a : VT} {W : Pn} {n : Nat} {r : En} (h : a n (s0 :: .pot :: r) fun n1 d => ∃ (z : Int) (n2 : Nat), d = .int z ∧ 0 ≤ z ∧ z ≤ n2 ∧ W.nx n2 (s0 :: .pot :: r)) : sPot2 1 a W n (s0 :: .pot :: r) := ⟨rfl, h⟩
theorem st_r2v {s0 s1 : Sl} {d : D} {W : Pn} {n : Nat} {r : En} (h : W.rt n (.val d)) : sRetV 2 W n (s0 :: s1 :: .val d :: r) := h
theorem st_r2o {s0 s1 : Sl} {d : List D} {W : Pn} {n : Nat} {r : En} (h : W.rt n (.own d)) : sRetV 2 W n (s0 :: s1 :: .own d :: r) := h
theorem st_m2v {s0 s1 : Sl} {d : D} {n : Nat} {r : En} {Q : Nat → En → D → Prop} (h : Q n (s0 :: s1 :: .val d :: r) d) : mVar 2 n (s0 :: s1 :: .val d :: r) Q := h
theorem st_m2o {s0 s1 : Sl} {d : List D} {n : Nat} {r : En} {Q : Nat → En → D → Prop} (h : Q n (s0 :: s1 :: .val (.list d) :: r) (.list d)) : mVar 2 n (s0 :: s1 :: .own d :: r) Q := h
theorem st_app2 {s0 s1 : Sl} {d0 : List D} {p : MT} {W : Pn} {n : Nat} {r : En} (h : p n (s0 :: s1 :: .own d0 :: r) fun n1 e1 d => ∃ ds, e1[2]? = some (.own ds) ∧ ds.length < sizeLine ∧ W.nx n1 (e1.set 2 (.own (ds ++ [d])))) : sApp 2 p W n (s0 :: s1 :: .own d0 :: r) := ⟨d0, rfl, h⟩
theorem st_ext2 {s0 s1 : Sl} {d0 : List D} {p : MT} {W : Pn} {n : Nat} {r : En} (h : p n (s0 :: s1 :: .own d0 :: r) fun n1 e1 d => ∃ ds es, d = .list es ∧ e1[2]? = some (.own ds) ∧ ds.length + es.length ≤ sizeLine ∧ W.nx n1 (e1.set 2 (.own (ds ++ es)))) : sExt 2 p W n (s0 :: s1 :: .own d0 :: r) := ⟨d0, rfl, h⟩
theorem st_gown2 {s0 s1 : Sl} {d : List D} {r : En} {P : List D → Prop} (h : P d) : ∃ ds, (s0 :: s1 :: Sl.own d :: r)[2]? = some (.own ds) ∧ P ds := ⟨d, rfl, h⟩
theorem st_gext2 {s0 s1 : Sl} {d x : List D} {r : En} {P : List D → List D → Prop} (h : P d x) : ∃ ds es, PyData.list x = .list es ∧ (s0 :: s1 :: Sl.own d :: r)[2]? = some (.own ds) ∧ P ds es := ⟨d, x, rfl, rfl, h⟩
theorem st_d2 {s0 s1 : Sl} {Ψ : FD} {j : Nat} {a : AT} {n : Nat} {r : En} {Q : Nat → Rv → Prop} (h : a n (s0 :: s1 :: .pot :: r) fun n1 ds => ds.length = j ∧ Ψ n1 ds Q) : rCallD 2 Ψ j a n (s0 :: s1 :: .pot :: r) Q := ⟨rfl, h⟩
theorem st_p02 {s0 s1 : Sl} {n : Nat} {r : En} {Q : Nat → D → Prop} (h : ∀ x : Int, 0 ≤ x → x < 10 ^ 300 → Q n (.int x)) : pPot0 2 n (s0 :: s1 :: .pot :: r) Q := ⟨rfl, h⟩
theorem st_p12 {s0 s1 : Sl} {n : Nat} {r : En} {Q : Nat → D → Prop} (h : ∀ x : Int, 0 ≤ x → x < 2305843009213693921 → Q n (.int x)) : pPot1 2 n (s0 :: s1 :: .pot :: r) Q := ⟨rfl, h⟩
theorem st_p22 {s0 s1 : Sl} {n : Nat} {r : En} {Q : Nat → D → Prop} (h : ∀ x : Int, 0 ≤ x → x ≤ n → Q n (.int x)) : pPot2 2 n (s0 :: s1 :: .pot :: r) Q := ⟨rfl, h⟩
theorem st_w02 {s0 s1 : Sl} {a : VT} {W : Pn} {n : Nat} {r : En} (h : a n (s0 :: s1 :: .pot :: r) fun n1 d => ∃ x, d = .int x ∧ 0 ≤ x ∧ x < 10 ^ 300 ∧ W.nx n1 (s0 :: s1 :: .pot :: r)) : sPot0 2 a W n (s0 :: s1 :: .pot :: r) := ⟨rfl, h⟩
theorem st_w22 {s0 s1 : Sl} {a : VT} {W : Pn} {n : Nat} {r : En} (h : a n (s0 :: s1 :: .pot :: r) fun n1 d => ∃ (z : Int) (n2 : Nat), d = .int z ∧ 0 ≤ z ∧ z ≤ n2 ∧ W.nx n2 (s0 :: s1 :: .pot :: r)) : sPot2 2 a W n (s0 :: s1 :: .pot :: r) := ⟨rfl, h⟩
theorem st_r3v {s0 s1 s2 : Sl} {d : D} {W : Pn} {n : Nat} {r : En} (h : W.rt n (.val d)) : sRetV 3 W n (s0 :: s1 :: s2 :: .val d :: r) := h
theorem st_r3o {s0 s1 s2 : Sl} {d : List D} {W : Pn} {n : Nat} {r : En} (h : W.rt n (.own d)) : sRetV 3 W n (s0 :: s1 :: s2 :: .own d :: r) := h
theorem st_m3v {s0 s1 s2 : Sl} {d : D} {n : Nat} {r : En} {Q : Nat → En → D → Prop} (h : Q n (s0 :: s1 :: s2 :: .val d :: r) d) : mVar 3 n (s0 :: s1 :: s2 :: .val d :: r) Q := h
theorem st_m3o {s0 s1 s2 : Sl} {d : List D} {n : Nat} {r : En} {Q : Nat → En → D → Prop} (h : Q n (s0 :: s1 :: s2 :: .val (.list d) :: r) (.list d)) : mVar 3 n (s0 :: s1 :: s2 :: .own d :: r) Q := h
theorem st_app3 {s0 s1 s2 : Sl} {d0 : List D} {p : MT} {W : Pn} {n : Nat} {r : En} (h : p n (s0 :: s1 :: s2 :: .own d0 :: r) fun n1 e1 d => ∃ ds, e1[3]? = some (.own ds) ∧ ds.length < sizeLine ∧ W.nx n1 (e1.set 3 (.own (ds ++ [d])))) : sApp 3 p W n (s0 :: s1 :: s2 :: .own d0 :: r) := ⟨d0, rfl, h⟩
theorem st_ext3 {s0 s1 s2 : Sl} {d0 : List D} {p : MT} {W : Pn} {n : Nat} {r : En} (h : p n (s0 :: s1 :: s2 :: .own d0 :: r) fun n1 e1 d => ∃ ds es, d = .list es ∧ e1[3]? = some (.own ds) ∧ ds.length + es.length ≤ sizeLine ∧ W.nx n1 (e1.set 3 (.own (ds ++ es)))) : sExt 3 p W n (s0 :: s1 :: s2 :: .own d0 :: r) := ⟨d0, rfl, h⟩
theorem st_gown3 {s0 s1 s2 : Sl} {d : List D} {r : En} {P : List D → Prop} (h : P d) : ∃ ds, (s0 :: s1 :: s2 :: Sl.own d :: r)[3]? = some (.own ds) ∧ P ds := ⟨d, rfl, h⟩
theorem st_gext3 {s0 s1 s2 : Sl} {d x : List D} {r : En} {P : List D → List D → Prop} (h : P d x) : ∃ ds es, PyData.list x = .list es ∧ (s0 :: s1 :: s2 :: Sl.own d :: r)[3]? = some (.own ds) ∧ P ds es := ⟨d, x, rfl, rfl, h⟩
theorem st_r4v {s0 s1 s2 s3 : Sl} {d : D} {W : Pn} {n : Nat} {r : En} (h : W.rt n (.val d)) : sRetV 4 W n (s0 :: s1 :: s2 :: s3 :: .val d :: r) := h
theorem st_r4o {s0 s1 s2 s3 : Sl} {d : List D} {W : Pn} {n : Nat} {r : En} (h : W.rt n (.own d)) : sRetV 4 W n (s0 :: s1 :: s2 :: s3 :: .own d :: r) := h
theorem st_m4v {s0 s1 s2 s3 : Sl} {d : D} {n : Nat} {r : En} {Q : Nat → En → D → Prop} (h : Q n (s0 :: s1 :: s2 :: s3 :: .val d :: r) d) : mVar 4 n (s0 :: s1 :: s2 :: s3 :: .val d :: r) Q := h
theorem st_m4o {s0 s1 s2 s3 : Sl} {d : List D} {n : Nat} {r : En} {Q : Nat → En → D → Prop} (h : Q n (s0 :: s1 :: s2 :: s3 :: .val (.list d) :: r) (.list d)) : mVar 4 n (s0 :: s1 :: s2 :: s3 :: .own d :: r) Q := h
theorem st_app4 {s0 s1 s2 s3 : Sl} {d0 : List D} {p : MT} {W : Pn} {n : Nat} {r : En} (h : p n (s0 :: s1 :: s2 :: s3 :: .own d0 :: r) fun n1 e1 d => ∃ ds, e1[4]? = some (.own ds) ∧ ds.length < sizeLine ∧ W.nx n1 (e1.set 4 (.own (ds ++ [d])))) : sApp 4 p W n (s0 :: s1 :: s2 :: s3 :: .own d0 :: r) := ⟨d0, rfl, h⟩
theorem st_ext4 {s0 s1 s2 s3 : Sl} {d0 : List D} {p : MT} {W : Pn} {n : Nat} {r : En} (h : p n (s0 :: s1 :: s2 :: s3 :: .own d0 :: r) fun n1 e1 d => ∃ ds es, d = .list es ∧ e1[4]? = some (.own ds) ∧ ds.length + es.length ≤ sizeLine ∧ W.nx n1 (e1.set 4 (.own (ds ++ es)))) : sExt 4 p W n (s0 :: s1 :: s2 :: s3 :: .own d0 :: r) := ⟨d0, rfl, h⟩
theorem st_gown4 {s0 s1 s2 s3 : Sl} {d : List D} {r : En} {P : List D → Prop} (h : P d) : ∃ ds, (s0 :: s1 :: s2 :: s3 :: Sl.own d :: r)[4]? = some (.own ds) ∧ P ds := ⟨d, rfl, h⟩
theorem st_gext4 {s0 s1 s2 s3 : Sl} {d x : List D} {r : En} {P : List D → List D → Prop} (h : P d x) : ∃ ds es, PyData.list x = .list es ∧ (s0 :: s1 :: s2 :: s3 :: Sl.own d :: r)[4]? = some (.own ds) ∧ P ds es := ⟨d, x, rfl, rfl, h⟩
theorem st_r5v {s0 s1 s2 s3 s4 : Sl} {d : D} {W : Pn} {n : Nat} {r : En} (h : W.rt n (.val d)) : sRetV 5 W n (s0 :: s1 :: s2 :: s3 :: s4 :: .val d :: r) := h
theorem st_r5o {s0 s1 s2 s3 s4 : Sl} {d : List D} {W : Pn} {n : Nat} {r : En} (h : W.rt n (.own d)) : sRetV 5 W n (s0 :: s1 :: s2 :: s3 :: s4 :: .own d :: r) := h
theorem st_m5v {s0 s1 s2 s3 s4 : Sl} {d : D} {n : Nat} {r : En} {Q : Nat → En → D → Prop} (h : Q n (s0 :: s1 :: s2 :: s3 :: s4 :: .val d :: r) d) : mVar 5 n (s0 :: s1 :: s2 :: s3 :: s4 :: .val d :: r) Q := h
theorem st_m5o {s0 s1 s2 s3 s4 : Sl} {d : List D} {n : Nat} {r : En} {Q : Nat → En → D → Prop} (h : Q n (s0 :: s1 :: s2 :: s3 :: s4 :: .val (.list d) :: r) (.list d)) : mVar 5 n (s0 :: s1 :: s2 :: s3 :: s4 :: .own d :: r) Q := h
theorem st_app5 {s0 s1 s2 s3 s4 : Sl} {d0 : List D} {p : MT} {W : Pn} {n : Nat} {r : En} (h : p n (s0 :: s1 :: s2 :: s3 :: s4 :: .own d0 :: r) fun n1 e1 d => ∃ ds, e1[5]? = some (.own ds) ∧ ds.length < sizeLine ∧ W.nx n1 (e1.set 5 (.own (ds ++ [d])))) : sApp 5 p W n (s0 :: s1 :: s2 :: s3 :: s4 :: .own d0 :: r) := ⟨d0, rfl, h⟩
theorem st_ext5 {s0 s1 s2 s3 s4 : Sl} {d0 : List D} {p : MT} {W : Pn} {n : Nat} {r : En} (h : p n (s0 :: s1 :: s2 :: s3 :: s4 :: .own d0 :: r) fun n1 e1 d => ∃ ds es, d = .list es ∧ e1[5]? = some (.own ds) ∧ ds.length + es.length ≤ sizeLine ∧ W.nx n1 (e1.set 5 (.own (ds ++ es)))) : sExt 5 p W n (s0 :: s1 :: s2 :: s3 :: s4 :: .own d0 :: r) := ⟨d0, rfl, h⟩
theorem st_gown5 {s0 s1 s2 s3 s4 : Sl} {d : List D} {r : En} {P : List D → Prop} (h : P d) : ∃ ds, (s0 :: s1 :: s2 :: s3 :: s4 :: Sl.own d :: r)[5]? = some (.own ds) ∧ P ds := ⟨d, rfl, h⟩
theorem st_gext5 {s0 s1 s2 s3 s4 : Sl} {d x : List D} {r : En} {P : List D → List D → Prop} (h : P d x) : ∃ ds es, PyData.list x = .list es ∧ (s0 :: s1 :: s2 :: s3 :: s4 :: Sl.own d :: r)[5]? = some (.own ds) ∧ P ds es := ⟨d, x, rfl, rfl, h⟩
theorem st_r6v {s0 s1 s2 s3 s4 s5 : Sl} {d : D} {W : Pn} {n : Nat} {r : En} (h : W.rt n (.val d)) : sRetV 6 W n (s0 :: s1 :: s2 :: s3 :: s4 :: s5 :: .val d :: r) := h
theorem st_r6o {s0 s1 s2 s3 s4 s5 : Sl} {d : List D} {W : Pn} {n : Nat} {r : En} (h : W.rt n (.own d)) : sRetV 6 W n (s0 :: s1 :: s2 :: s3 :: s4 :: s5 :: .own d :: r) := h
theorem st_m6v {s0 s1 s2 s3 s4 s5 : Sl} {d : D} {n : Nat} {r : En} {Q : Nat → En → D → Prop} (h : Q n (s0 :: s1 :: s2 :: s3 :: s4 :: s5 :: .val d :: r) d) : mVar 6 n (s0 :: s1 :: s2 :: s3 :: s4 :: s5 :: .val d :: r) Q := h
theorem st_m6o {s0 s1 s2 s3 s4 s5 : Sl} {d : List D} {n : Nat} {r : En} {Q : Nat → En → D → Prop} (h : Q n (s0 :: s1 :: s2 :: s3 :: s4 :: s5 :: .val (.list d) :: r) (.list d)) : mVar 6 n (s0 :: s1 :: s2 :: s3 :: s4 :: s5 :: .own d :: r) Q := h
theorem st_app6 {s0 s1 s2 s3 s4 s5 : Sl} {d0 : List D} {p : MT} {W : Pn} {n : Nat} {r : En} (h : p n (s0 :: s1 :: s2 :: s3 :: s4 :: s5 :: .own d0 :: r) fun n1 e1 d => ∃ ds, e1[6]? = some (.own ds) ∧ ds.length < sizeLine ∧ W.nx n1 (e1.set 6 (.own (ds ++ [d])))) : sApp 6 p W n (s0 :: s1 :: s2 :: s3 :: s4 :: s5 :: .own d0 :: r) := ⟨d0, rfl, h⟩
theorem st_ext6 {s0 s1 s2 s3 s4 s5 : Sl} {d0 : List D} {p : MT} {W : Pn} {n : Nat} {r : En} (h : p n (s0 :: s1 :: s2 :: s3 :: s4 :: s5 :: .own d0 :: r) fun n1 e1 d => ∃ ds es, d = .list es ∧ e1[6]? = some (.own ds) ∧ ds.length + es.length ≤ sizeLine ∧ W.nx n1 (e1.set 6 (.own (ds ++ es)))) : sExt 6 p W n (s0 :: s1 :: s2 :: s3 :: s4 :: s5 :: .own d0 :: r) := ⟨d0, rfl, h⟩
theorem st_gown6 {s0 s1 s2 s3 s4 s5 : Sl} {d : List D} {r : En} {P : List D → Prop} (h : P d) : ∃ ds, (s0 :: s1 :: s2 :: s3 :: s4 :: s5 :: Sl.own d :: r)[6]? = some (.own ds) ∧ P ds := ⟨d, rfl, h⟩
theorem st_gext6 {s0 s1 s2 s3 s4 s5 : Sl} {d x : List D} {r : En} {P : List D → List D → Prop} (h : P d x) : ∃ ds es, PyData.list x = .list es ∧ (s0 :: s1 :: s2 :: s3 :: s4 :: s5 :: Sl.own d :: r)[6]? = some (.own ds) ∧ P ds es := ⟨d, x, rfl, rfl, h⟩
theorem st_r7v {s0 s1 s2 s3 s4 s5 s6 : Sl} {d : D} {W : Pn} {n : Nat} {r : En} (h : W.rt n (.val d)) : sRetV 7 W n (s0 :: s1 :: s2 :: s3 :: s4 :: s5 :: s6 :: .val d :: r) := h
theorem st_r7o {s0 s1 s2 s3 s4 s5 s6 : Sl} {d : List D} {W : Pn} {n : Nat} {r : En} (h : W.rt n (.own d)) : sRetV 7 W n (s0 :: s1 :: s2 :: s3 :: s4 :: s5 :: s6 :: .own d :: r) := h
theorem st_m7v {s0 s1 s2 s3 s4 s5 s6 : Sl} {d : D} {n : Nat} {r : En} {Q : Nat → En → D → Prop} (h : Q n (s0 :: s1 :: s2 :: s3 :: s4 :: s5 :: s6 :: .val d :: r) d) : mVar 7 n (s0 :: s1 :: s2 :: s3 :: s4 :: s5 :: s6 :: .val d :: r) Q := h
theorem st_m7o {s0 s1 s2 s3 s4 s5 s6 : Sl} {d : List D} {n : Nat} {r : En} {Q : Nat → En → D → Prop} (h : Q n (s0 :: s1 :: s2 :: s3 :: s4 :: s5 :: s6 :: .val (.list d) :: r) (.list d)) : mVar 7 n (s0 :: s1 :: s2 :: s3 :: s4 :: s5 :: s6 :: .own d :: r) Q := h
theorem st_app7 {s0 s1 s2 s3 s4 s5 s6 : Sl} {d0 : List D} {p : MT} {W : Pn} {n : Nat} {r : En} (h : p n (s0 :: s1 :: s2 :: s3 :: s4 :: s5 :: s6 :: .own d0 :: r) fun n1 e1 d => ∃ ds, e1[7]? = some (.own ds) ∧ ds.length < sizeLine ∧ W.nx n1 (e1.set 7 (.own (ds ++ [d])))) : sApp 7 p W n (s0 :: s1 :: s2 :: s3 :: s4 :: s5 :: s6 :: .own d0 :: r) := ⟨d0, rfl, h⟩
theorem st_ext7 {s0 s1 s2 s3 s4 s5 s6 : Sl} {d0 : List D} {p : MT} {W : Pn} {n : Nat} {r : En} (h : p n (s0 :: s1 :: s2 :: s3 :: s4 :: s5 :: s6 :: .own d0 :: r) fun n1 e1 d => ∃ ds es, d = .list es ∧ e1[7]? = some (.own ds) ∧ ds.length + es.length ≤ sizeLine ∧ W.nx n1 (e1.set 7 (.own (ds ++ es)))) : sExt 7 p W n (s0 :: s1 :: s2 :: s3 :: s4 :: s5 :: s6 :: .own d0 :: r) := ⟨d0, rfl, h⟩
theorem st_gown7 {s0 s1 s2 s3 s4 s5 s6 : Sl} {d : List D} {r : En} {P : List D → Prop} (h : P d) : ∃ ds, (s0 :: s1 :: s2 :: s3 :: s4 :: s5 :: s6 :: Sl.own d :: r)[7]? = some (.own ds) ∧ P ds := ⟨d, rfl, h⟩
theorem st_gext7 {s0 s1 s2 s3 s4 s5 s6 : Sl} {d x : List D} {r : En} {P : List D → List D → Prop} (h : P d x) : ∃ ds es, PyData.list x = .list es ∧ (s0 :: s1 :: s2 :: s3 :: s4 :: s5 :: s6 :: Sl.own d :: r)[7]? = some (.own ds) ∧ P ds es := ⟨d, x, rfl, rfl, h⟩
theorem st_r8v {s0 s1 s2 s3 s4 s5 s6 s7 : Sl} {d : D} {W : Pn} {n : Nat} {r : En} (h : W.rt n (.val d)) : sRetV 8 W n (s0 :: s1 :: s2 :: s3 :: s4 :: s5 :: s6 :: s7 :: .val d :: r) := h
theorem st_r8o {s0 s1 s2 s3 s4 s5 s6 s7 : Sl} {d : List D} {W : Pn} {n : Nat} {r : En} (h : W.rt n (.own d)) : sRetV 8 W n (s0 :: s1 :: s2 :: s3 :: s4 :: s5 :: s6 :: s7 :: .own d :: r) := h
theorem st_m8v {s0 s1 s2 s3 s4 s5 s6 s7 : Sl} {d : D} {n : Nat} {r : En} {Q : Nat → En → D → Prop} (h : Q n (s0 :: s1 :: s2 :: s3 :: s4 :: s5 :: s6 :: s7 :: .val d :: r) d) : mVar 8 n (s0 :: s1 :: s2 :: s3 :: s4 :: s5 :: s6 :: s7 :: .val d :: r) Q := h
theorem st_m8o {s0 s1 s2 s3 s4 s5 s6 s7 : Sl} {d : List D} {n : Nat} {r : En} {Q : Nat → En → D → Prop} (h : Q n (s0 :: s1 :: s2 :: s3 :: s4 :: s5 :: s6 :: s7 :: .val (.list d) :: r) (.list d)) : mVar 8 n (s0 :: s1 :: s2 :: s3 :: s4 :: s5 :: s6 :: s7 :: .own d :: r) Q := h
theorem st_app8 {s0 s1 s2 s3 s4 s5 s6 s7 : Sl} {d0 : List D} {p : MT} {W : Pn} {n : Nat} {r : En} (h : p n (s0 :: s1 :: s2 :: s3 :: s4 :: s5 :: s6 :: s7 :: .own d0 :: r) fun n1 e1 d => ∃ ds, e1[8]? = some (.own ds) ∧ ds.length < sizeLine ∧ W.nx n1 (e1.set 8 (.own (ds ++ [d])))) : sApp 8 p W n (s0 :: s1 :: s2 :: s3 :: s4 :: s5 :: s6 :: s7 :: .own d0 :: r) := ⟨d0, rfl, h⟩
theorem st_ext8 {s0 s1 s2 s3 s4 s5 s6 s7 : Sl} {d0 : List D} {p : MT} {W : Pn} {n : Nat} {r : En} (h : p n (s0 :: s1 :: s2 :: s3 :: s4 :: s5 :: s6 :: s7 :: .own d0 :: r) fun n1 e1 d => ∃ ds es, d = .list es ∧ e1[8]? = some (.own ds) ∧ ds.length + es.length ≤ sizeLine ∧ W.nx n1 (e1.set 8 (.own (ds ++ es)))) : sExt 8 p W n (s0 :: s1 :: s2 :: s3 :: s4 :: s5 :: s6 :: s7 :: .own d0 :: r) := ⟨d0, rfl, h⟩
theorem st_gown8 {s0 s1 s2 s3 s4 s5 s6 s7 : Sl} {d : List D} {r : En} {P : List D → Prop} (h : P d) : ∃ ds, (s0 :: s1 :: s2 :: s3 :: s4 :: s5 :: s6 :: s7 :: Sl.own d :: r)[8]? = some (.own ds) ∧ P ds := ⟨d, rfl, h⟩
theorem st_gext8 {s0 s1 s2 s3 s4 s5 s6 s7 : Sl} {d x : List D} {r : En} {P : List D → List D → Prop} (h : P d x) : ∃ ds es, PyData.list x = .list es ∧ (s0 :: s1 :: s2 :: s3 :: s4 :: s5 :: s6 :: s7 :: Sl.own d :: r)[8]? = some (.own ds) ∧ P ds es := ⟨d, x, rfl, rfl, h⟩
theorem st_r9v {s0 s1 s2 s3 s4 s5 s6 s7 s8 : Sl} {d : D} {W : Pn} {n : Nat} {r : En} (h : W.rt n (.val d)) : sRetV 9 W n (s0 :: s1 :: s2 :: s3 :: s4 :: s5 :: s6 :: s7 :: s8 :: .val d :: r) := h
theorem st_r9o {s0 s1 s2 s3 s4 s5 s6 s7 s8 : Sl} {d : List D} {W : Pn} {n : Nat} {r : En} (h : W.rt n (.own d)) : sRetV 9 W n (s0 :: s1 :: s2 :: s3 :: s4 :: s5 :: s6 :: s7 :: s8 :: .own d :: r) := h
theorem st_m9v {s0 s1 s2 s3 s4 s5 s6 s7 s8 : Sl} {d : D} {n : Nat} {r : En} {Q : Nat → En → D → Prop} (h : Q n (s0 :: s1 :: s2 :: s3 :: s4 :: s5 :: s6 :: s7 :: s8 :: .val d :: r) d) : mVar 9 n (s0 :: s1 :: s2 :: s3 :: s4 :: s5 :: s6 :: s7 :: s8 :: .val d :: r) Q := h
theorem st_m9o {s0 s1 s2 s3 s4 s5 s6 s7 s8 : Sl} {d : List D} {n : Nat} {r : En} {Q : Nat → En → D → Prop} (h : Q n (s0 :: s1 :: s2 :: s3 :: s4 :: s5 :: s6 :: s7 :: s8 :: .val (.list d) :: r) (.list d)) : mVar 9 n (s0 :: s1 :: s2 :: s3 :: s4 :: s5 :: s6 :: s7 :: s8 :: .own d :: r) Q := h
theorem st_app9 {s0 s1 s2 s3 s4 s5 s6 s7 s8 : Sl} {d0 : List D} {p : MT} {W : Pn} {n : Nat} {r : En} (h : p n (s0 :: s1 :: s2 :: s3 :: s4 :: s5 :: s6 :: s7 :: s8 :: .own d0 :: r) fun n1 e1 d => ∃ ds, e1[9]? = some (.own ds) ∧ ds.length < sizeLine ∧ W.nx n1 (e1.set 9 (.own (ds ++ [d])))) : sApp 9 p W n (s0 :: s1 :: s2 :: s3 :: s4 :: s5 :: s6 :: s7 :: s8 :: .own d0 :: r) := ⟨d0, rfl, h⟩
theorem st_ext9 {s0 s1 s2 s3 s4 s5 s6 s7 s8 : Sl} {d0 : List D} {p : MT} {W : Pn} {n : Nat} {r : En} (h : p n (s0 :: s1 :: s2 :: s3 :: s4 :: s5 :: s6 :: s7 :: s8 :: .own d0 :: r) fun n1 e1 d => ∃ ds es, d = .list es ∧ e1[9]? = some (.own ds) ∧ ds.length + es.length ≤ sizeLine ∧ W.nx n1 (e1.set 9 (.own (ds ++ es)))) : sExt 9 p W n (s0 :: s1 :: s2 :: s3 :: s4 :: s5 :: s6 :: s7 :: s8 :: .own d0 :: r) := ⟨d0, rfl, h⟩
theorem st_gown9 {s0 s1 s2 s3 s4 s5 s6 s7 s8 : Sl} {d : List D} {r : En} {P : List D → Prop} (h : P d) : ∃ ds, (s0 :: s1 :: s2 :: s3 :: s4 :: s5 :: s6 :: s7 :: s8 :: Sl.own d :: r)[9]? = some (.own ds) ∧ P ds := ⟨d, rfl, h⟩
theorem st_gext9 {s0 s1 s2 s3 s4 s5 s6 s7 s8 : Sl} {d x : List D} {r : En} {P : List D → List D → Prop} (h : P d x) : ∃ ds es, PyData.list x = .list es ∧ (s0 :: s1 :: s2 :: s3 :: s4 :: s5 :: s6 :: s7 :: s8 :: Sl.own d :: r)[9]? = some (.own ds) ∧ P ds es := ⟨d, x, rfl, rfl, h⟩
theorem st_r10v {s0 s1 s2 s3 s4 s5 s6 s7 s8 s9 : Sl} {d : D} {W : Pn} {n : Nat} {r : En} (h : W.rt n (.val d)) : sRetV 10 W n (s0 :: s1 :: s2 :: s3 :: s4 :: s5 :: s6 :: s7 :: s8 :: s9 :: .val d :: r) := h
theorem st_r10o {s0 s1 s2 s3 s4 s5 s6 s7 s8 s9 : Sl} {d : List D} {W : Pn} {n : Nat} {r : En} (h : W.rt n (.own d)) : sRetV 10 W n (s0 :: s1 :: s2 :: s3 :: s4 :: s5 :: s6 :: s7 :: s8 :: s9 :: .own d :: r) := h
theorem st_m10v {s0 s1 s2 s3 s4 s5 s6 s7 s8 s9 : Sl} {d : D} {n : Nat} {r : En} {Q : Nat → En → D → Prop} (h : Q n (s0 :: s1 :: s2 :: s3 :: s4 :: s5 :: s6 :: s7 :: s8 :: s9 :: .val d :: r) d) : mVar 10 n (s0 :: s1 :: s2 :: s3 :: s4 :: s5 :: s6 :: s7 :: s8 :: s9 :: .val d :: r) Q := h
theorem st_m10o {s0 s1 s2 s3 s4 s5 s6 s7 s8 s9 : Sl} {d : List D} {n : Nat} {r : En} {Q : Nat → En → D → Prop} (h : Q n (s0 :: s1 :: s2 :: s3 :: s4 :: s5 :: s6 :: s7 :: s8 :: s9 :: .val (.list d) :: r) (.list d)) : mVar 10 n (s0 :: s1 :: s2 :: s3 :: s4 :: s5 :: s6 :: s7 :: s8 :: s9 :: .own d :: r) Q := h
theorem st_app10 {s0 s1 s2 s3 s4 s5 s6 s7 s8 s9 : Sl} {d0 : List D} {p : MT} {W : Pn} {n : Nat} {r : En} (h : p n (s0 :: s1 :: s2 :: s3 :: s4 :: s5 :: s6 :: s7 :: s8 :: s9 :: .own d0 :: r) fun n1 e1 d => ∃ ds, e1[10]? = some (.own ds) ∧ ds.length < sizeLine ∧ W.nx n1 (e1.set 10 (.own (ds ++ [d])))) : sApp 10 p W n (s0 :: s1 :: s2 :: s3 :: s4 :: s5 :: s6 :: s7 :: s8 :: s9 :: .own d0 :: r) := ⟨d0, rfl, h⟩
theorem st_ext10 {s0 s1 s2 s3 s4 s5 s6 s7 s8 s9 : Sl} {d0 : List D} {p : MT} {W : Pn} {n : Nat} {r : En} (h : p n (s0 :: s1 :: s2 :: s3 :: s4 :: s5 :: s6 :: s7 :: s8 :: s9 :: .own d0 :: r) fun n1 e1 d => ∃ ds es, d = .list es ∧ e1[10]? = some (.own ds) ∧ ds.length + es.length ≤ sizeLine ∧ W.nx n1 (e1.set 10 (.own (ds ++ es)))) : sExt 10 p W n (s0 :: s1 :: s2 :: s3 :: s4 :: s5 :: s6 :: s7 :: s8 :: s9 :: .own d0 :: r) := ⟨d0, rfl, h⟩
theorem st_gown10 {s0 s1 s2 s3 s4 s5 s6 s7 s8 s9 : Sl} {d : List D} {r : En} {P : List D → Prop} (h : P d) : ∃ ds, (s0 :: s1 :: s2 :: s3 :: s4 :: s5 :: s6 :: s7 :: s8 :: s9 :: Sl.own d :: r)[10]? = some (.own ds) ∧ P ds := ⟨d, rfl, h⟩
theorem st_gext10 {s0 s1 s2 s3 s4 s5 s6 s7 s8 s9 : Sl} {d x : List D} {r : En} {P : List D → List D → Prop} (h : P d x) : ∃ ds es, PyData.list x = .list es ∧ (s0 :: s1 :: s2 :: s3 :: s4 :: s5 :: s6 :: s7 :: s8 :: s9 :: Sl.own d :: r)[10]? = some (.own ds) ∧ P ds es := ⟨d, x, rfl, rfl, h⟩
theorem st_r11v {s0 s1 s2 s3 s4 s5 s6 s7 s8 s9 s10 : Sl} {d : D} {W : Pn} {n : Nat} {r : En} (h : W.rt n (.val d)) : sRetV 11 W n (s0 :: s1 :: s2 :: s3 :: s4 :: s5 :: s6 :: s7 :: s8 :: s9 :: s10 :: .val d :: r) := h
theorem st_r11o {s0 s1 s2 s3 s4 s5 s6 s7 s8 s9 s10 : Sl} {d : List D} {W : Pn} {n : Nat} {r : En} (h : W.rt n (.own d)) : sRetV 11 W n (s0 :: s1 :: s2 :: s3 :: s4 :: s5 :: s6 :: s7 :: s8 :: s9 :: s10 :: .own d :: r) := h
theorem st_m11v {s0 s1 s2 s3 s4 s5 s6 s7 s8 s9 s10 : Sl} {d : D} {n : Nat} {r : En} {Q : Nat → En → D → Prop} (h : Q n (s0 :: s1 :: s2 :: s3 :: s4 :: s5 :: s6 :: s7 :: s8 :: s9 :: s10 :: .val d :: r) d) : mVar 11 n (s0 :: s1 :: s2 :: s3 :: s4 :: s5 :: s6 :: s7 :: s8 :: s9 :: s10 :: .val d :: r) Q := h
theorem st_m11o {s0 s1 s2 s3 s4 s5 s6 s7 s8 s9 s10 : Sl} {d : List D} {n : Nat} {r : En} {Q : Nat → En → D → Prop} (h : Q n (s0 :: s1 :: s2 :: s3 :: s4 :: s5 :: s6 :: s7 :: s8 :: s9 :: s10 :: .val (.list d) :: r) (.list d)) : mVar 11 n (s0 :: s1 :: s2 :: s3 :: s4 :: s5 :: s6 :: s7 :: s8 :: s9 :: s10 :: .own d :: r) Q := h
theorem st_app11 {s0 s1 s2 s3 s4 s5 s6 s7 s8 s9 s10 : Sl} {d0 : List D} {p : MT} {W : Pn} {n : Nat} {r : En} (h : p n (s0 :: s1 :: s2 :: s3 :: s4 :: s5 :: s6 :: s7 :: s8 :: s9 :: s10 :: .own d0 :: r) fun n1 e1 d => ∃ ds, e1[11]? = some (.own ds) ∧ ds.length < sizeLine ∧ W.nx n1 (e1.set 11 (.own (ds ++ [d])))) : sApp 11 p W n (s0 :: s1 :: s2 :: s3 :: s4 :: s5 :: s6 :: s7 :: s8 :: s9 :: s10 :: .own d0 :: r) := ⟨d0, rfl, h⟩
theorem st_ext11 {s0 s1 s2 s3 s4 s5 s6 s7 s8 s9 s10 : Sl} {d0 : List D} {p : MT} {W : Pn} {n : Nat} {r : En} (h : p n (s0 :: s1 :: s2 :: s3 :: s4 :: s5 :: s6 :: s7 :: s8 :: s9 :: s10 :: .own d0 :: r) fun n1 e1 d => ∃ ds es, d = .list es ∧ e1[11]? = some (.own ds) ∧ ds.length + es.length ≤ sizeLine ∧ W.nx n1 (e1.set 11 (.own (ds ++ es)))) : sExt 11 p W n (s0 :: s1 :: s2 :: s3 :: s4 :: s5 :: s6 :: s7 :: s8 :: s9 :: s10 :: .own d0 :: r) := ⟨d0, rfl, h⟩
theorem st_gown11 {s0 s1 s2 s3 s4 s5 s6 s7 s8 s9 s10 : Sl} {d : List D} {r : En} {P : List D → Prop} (h : P d) : ∃ ds, (s0 :: s1 :: s2 :: s3 :: s4 :: s5 :: s6 :: s7 :: s8 :: s9 :: s10 :: Sl.own d :: r)[11]? = some (.own ds) ∧ P ds := ⟨d, rfl, h⟩
theorem st_gext11 {s0 s1 s2 s3 s4 s5 s6 s7 s8 s9 s10 : Sl} {d x : List D} {r : En} {P : List D → List D → Prop} (h : P d x) : ∃ ds es, PyData.list x = .list es ∧ (s0 :: s1 :: s2 :: s3 :: s4 :: s5 :: s6 :: s7 :: s8 :: s9 :: s10 :: Sl.own d :: r)[11]? = some (.own ds) ∧ P ds es := ⟨d, x, rfl, rfl, h⟩
theorem st_r12v {s0 s1 s2 s3 s4 s5 s6 s7 s8 s9 s10 s11 : Sl} {d : D} {W : Pn} {n : Nat} {r : En} (h : W.rt n (.val d)) : sRetV 12 W n (s0 :: s1 :: s2 :: s3 :: s4 :: s5 :: s6 :: s7 :: s8 :: s9 :: s10 :: s11 :: .val d :: r) := h
theorem st_r12o {s0 s1 s2 s3 s4 s5 s6 s7 s8 s9 s10 s11 : Sl} {d : List D} {W : Pn} {n : Nat} {r : En} (h : W.rt n (.own d)) : sRetV 12 W n (s0 :: s1 :: s2 :: s3 :: s4 :: s5 :: s6 :: s7 :: s8 :: s9 :: s10 :: s11 :: .own d :: r) := h
theorem st_m12v {s0 s1 s2 s3 s4 s5 s6 s7 s8 s9 s10 s11 : Sl} {d : D} {n : Nat} {r : En} {Q : Nat → En → D → Prop} (h : Q n (s0 :: s1 :: s2 :: s3 :: s4 :: s5 :: s6 :: s7 :: s8 :: s9 :: s10 :: s11 :: .val d :: r) d) : mVar 12 n (s0 :: s1 :: s2 :: s3 :: s4 :: s5 :: s6 :: s7 :: s8 :: s9 :: s10 :: s11 :: .val d :: r) Q := h
theorem st_m12o {s0 s1 s2 s3 s4 s5 s6 s7 s8 s9 s10 s11 : Sl} {d : List D} {n : Nat} {r : En} {Q : Nat → En → D → Prop} (h : Q n (s0 :: s1 :: s2 :: s3 :: s4 :: s5 :: s6 :: s7 :: s8 :: s9 :: s10 :: s11 :: .val (.list d) :: r) (.list d)) : mVar 12 n (s0 :: s1 :: s2 :: s3 :: s4 :: s5 :: s6 :: s7 :: s8 :: s9 :: s10 :: s11 :: .own d :: r) Q := h
theorem st_app12 {s0 s1 s2 s3 s4 s5 s6 s7 s8 s9 s10 s11 : Sl} {d0 : List D} {p : MT} {W : Pn} {n : Nat} {r : En} (h : p n (s0 :: s1 :: s2 :: s3 :: s4 :: s5 :: s6 :: s7 :: s8 :: s9 :: s10 :: s11 :: .own d0 :: r) fun n1 e1 d => ∃ ds, e1[12]? = some (.own ds) ∧ ds.length < sizeLine ∧ W.nx n1 (e1.set 12 (.own (ds ++ [d])))) : sApp 12 p W n (s0 :: s1 :: s2 :: s3 :: s4 :: s5 :: s6 :: s7 :: s8 :: s9 :: s10 :: s11 :: .own d0 :: r) := ⟨d0, rfl, h⟩
theorem st_ext12 {s0 s1 s2 s3 s4 s5 s6 s7 s8 s9 s10 s11 : Sl} {d0 : List D} {p : MT} {W : Pn} {n : Nat} {r : En} (h : p n (s0 :: s1 :: s2 :: s3 :: s4 :: s5 :: s6 :: s7 :: s8 :: s9 :: s10 :: s11 :: .own d0 :: r) fun n1 e1 d => ∃ ds es, d = .list es ∧ e1[12]? = some (.own ds) ∧ ds.length + es.length ≤ sizeLine ∧ W.nx n1 (e1.set 12 (.own (ds ++ es)))) : sExt 12 p W n (s0 :: s1 :: s2 :: s3 :: s4 :: s5 :: s6 :: s7 :: s8 :: s9 :: s10 :: s11 :: .own d0 :: r) := ⟨d0, rfl, h⟩
theorem st_gown12 {s0 s1 s2 s3 s4 s5 s6 s7 s8 s9 s10 s11 : Sl} {d : List D} {r : En} {P : List D → Prop} (h : P d) : ∃ ds, (s0 :: s1 :: s2 :: s3 :: s4 :: s5 :: s6 :: s7 :: s8 :: s9 :: s10 :: s11 :: Sl.own d :: r)[12]? = some (.own ds) ∧ P ds := ⟨d, rfl, h⟩
theorem st_gext12 {s0 s1 s2 s3 s4 s5 s6 s7 s8 s9 s10 s11 : Sl} {d x : List D} {r : En} {P : List D → List D → Prop} (h : P d x) : ∃ ds es, PyData.list x = .list es ∧ (s0 :: s1 :: s2 :: s3 :: s4 :: s5 :: s6 :: s7 :: s8 :: s9 :: s10 :: s11 :: Sl.own d :: r)[12]? = some (.own ds) ∧ P ds es := ⟨d, x, rfl, rfl, h⟩
theorem st_r13v {s0 s1 s2 s3 s4 s5 s6 s7 s8 s9 s10 s11 s12 : Sl} {d : D} {W : Pn} {n : Nat} {r : En} (h : W.rt n (.val d)) : sRetV 13 W n (s0 :: s1 :: s2 :: s3 :: s4 :: s5 :: s6 :: s7 :: s8 :: s9 :: s10 :: s11 :: s12 :: .val d :: r) := h
theorem st_r13o {s0 s1 s2 s3 s4 s5 s6 s7 s8 s9 s10 s11 s12 : Sl} {d : List D} {W : Pn} {n : Nat} {r : En} (h : W.rt n (.own d)) : sRetV 13 W n (s0 :: s1 :: s2 :: s3 :: s4 :: s5 :: s6 :: s7 :: s8 :: s9 :: s10 :: s11 :: s12 :: .own d :: r) := h
theorem st_m13v {s0 s1 s2 s3 s4 s5 s6 s7 s8 s9 s10 s11 s12 : Sl} {d : D} {n : Nat} {r : En} {Q : Nat → En → D → Prop} (h : Q n (s0 :: s1 :: s2 :: s3 :: s4 :: s5 :: s6 :: s7 :: s8 :: s9 :: s10 :: s11 :: s12 :: .val d :: r) d) : mVar 13 n (s0 :: s1 :: s2 :: s3 :: s4 :: s5 :: s6 :: s7 :: s8 :: s9 :: s10 :: s11 :: s12 :: .val d :: r) Q := h
theorem st_m13o {s0 s1 s2 s3 s4 s5 s6 s7 s8 s9 s10 s11 s12 : Sl} {d : List D} {n : Nat} {r : En} {Q : Nat → En → D → Prop} (h : Q n (s0 :: s1 :: s2 :: s3 :: s4 :: s5 :: s6 :: s7 :: s8 :: s9 :: s10 :: s11 :: s12 :: .val (.list d) :: r) (.list d)) : mVar 13 n (s0 :: s1 :: s2 :: s3 :: s4 :: s5 :: s6 :: s7 :: s8 :: s9 :: s10 :: s11 :: s12 :: .own d :: r) Q := h
theorem st_app13 {s0 s1 s2 s3 s4 s5 s6 s7 s8 s9 s10 s11 s12 : Sl} {d0 : List D} {p : MT} {W : Pn} {n : Nat} {r : En} (h : p n (s0 :: s1 :: s2 :: s3 :: s4 :: s5 :: s6 :: s7 :: s8 :: s9 :: s10 :: s11 :: s12 :: .own d0 :: r) fun n1 e1 d => ∃ ds, e1[13]? = some (.own ds) ∧ ds.length < sizeLine ∧ W.nx n1 (e1.set 13 (.own (ds ++ [d])))) : sApp 13 p W n (s0 :: s1 :: s2 :: s3 :: s4 :: s5 :: s6 :: s7 :: s8 :: s9 :: s10 :: s11 :: s12 :: .own d0 :: r) := ⟨d0, rfl, h⟩
theorem st_ext13 {s0 s1 s2 s3 s4 s5 s6 s7 s8 s9 s10 s11 s12 : Sl} {d0 : List D} {p : MT} {W : Pn} {n : Nat} {r : En} (h : p n (s0 :: s1 :: s2 :: s3 :: s4 :: s5 :: s6 :: s7 :: s8 :: s9 :: s10 :: s11 :: s12 :: .own d0 :: r) fun n1 e1 d => ∃ ds es, d = .list es ∧ e1[13]? = some (.own ds) ∧ ds.length + es.length ≤ sizeLine ∧ W.nx n1 (e1.set 13 (.own (ds ++ es)))) : sExt 13 p W n (s0 :: s1 :: s2 :: s3 :: s4 :: s5 :: s6 :: s7 :: s8 :: s9 :: s10 :: s11 :: s12 :: .own d0 :: r) := ⟨d0, rfl, h⟩
theorem st_gown13 {s0 s1 s2 s3 s4 s5 s6 s7 s8 s9 s10 s11 s12 : Sl} {d : List D} {r : En} {P : List D → Prop} (h : P d) : ∃ ds, (s0 :: s1 :: s2 :: s3 :: s4 :: s5 :: s6 :: s7 :: s8 :: s9 :: s10 :: s11 :: s12 :: Sl.own d :: r)[13]? = some (.own ds) ∧ P ds := ⟨d, rfl, h⟩
theorem st_gext13 {s0 s1 s2 s3 s4 s5 s6 s7 s8 s9 s10 s11 s12 : Sl} {d x : List D} {r : En} {P : List D → List D → Prop} (h : P d x) : ∃ ds es, PyData.list x = .list es ∧ (s0 :: s1 :: s2 :: s3 :: s4 :: s5 :: s6 :: s7 :: s8 :: s9 :: s10 :: s11 :: s12 :: Sl.own d :: r)[13]? = some (.own ds) ∧ P ds es := ⟨d, x, rfl, rfl, h⟩
theorem st_r14v {s0 s1 s2 s3 s4 s5 s6 s7 s8 s9 s10 s11 s12 s13 : Sl} {d : D} {W : Pn} {n : Nat} {r : En} (h : W.rt n (.val d)) : sRetV 14 W n (s0 :: s1 :: s2 :: s3 :: s4 :: s5 :: s6 :: s7 :: s8 :: s9 :: s10 :: s11 :: s12 :: s13 :: .val d :: r) := h
theorem st_r14o {s0 s1 s2 s3 s4 s5 s6 s7 s8 s9 s10 s11 s12 s13 : Sl} {d : List D} {W : Pn} {n : Nat} {r : En} (h : W.rt n (.own d)) : sRetV 14 W n (s0 :: s1 :: s2 :: s3 :: s4 :: s5 :: s6 :: s7 :: s8 :: s9 :: s10 :: s11 :: s12 :: s13 :: .own d :: r) := h
theorem st_m14v {s0 s1 s2 s3 s4 s5 s6 s7 s8 s9 s10 s11 s12 s13 : Sl} {d : D} {n : Nat} {r : En} {Q : Nat → En → D → Prop} (h : Q n (s0 :: s1 :: s2 :: s3 :: s4 :: s5 :: s6 :: s7 :: s8 :: s9 :: s10 :: s11 :: s12 :: s13 :: .val d :: r) d) : mVar 14 n (s0 :: s1 :: s2 :: s3 :: s4 :: s5 :: s6 :: s7 :: s8 :: s9 :: s10 :: s11 :: s12 :: s13 :: .val d :: r) Q := h
theorem st_m14o {s0 s1 s2 s3 s4 s5 s6 s7 s8 s9 s10 s11 s12 s13 : Sl} {d : List D} {n : Nat} {r : En} {Q : Nat → En → D → Prop} (h : Q n (s0 :: s1 :: s2 :: s3 :: s4 :: s5 :: s6 :: s7 :: s8 :: s9 :: s10 :: s11 :: s12 :: s13 :: .val (.list d) :: r) (.list d)) : mVar 14 n (s0 :: s1 :: s2 :: s3 :: s4 :: s5 :: s6 :: s7 :: s8 :: s9 :: s10 :: s11 :: s12 :: s13 :: .own d :: r) Q := h
theorem st_app14 {s0 s1 s2 s3 s4 s5 s6 s7 s8 s9 s10 s11 s12 s13 : Sl} {d0 : List D} {p : MT} {W : Pn} {n : Nat} {r : En} (h : p n (s0 :: s1 :: s2 :: s3 :: s4 :: s5 :: s6 :: s7 :: s8 :: s9 :: s10 :: s11 :: s12 :: s13 :: .own d0 :: r) fun n1 e1 d => ∃ ds, e1[14]? = some (.own ds) ∧ ds.length < sizeLine ∧ W.nx n1 (e1.set 14 (.own (ds ++ [d])))) : sApp 14 p W n (s0 :: s1 :: s2 :: s3 :: s4 :: s5 :: s6 :: s7 :: s8 :: s9 :: s10 :: s11 :: s12 :: s13 :: .own d0 :: r) := ⟨d0, rfl, h⟩
theorem st_ext14 {s0 s1 s2 s3 s4 s5 s6 s7 s8 s9 s10 s11 s12 s13 : Sl} {d0 : List D} {p : MT} {W : Pn} {n : Nat} {r : En} (h : p n (s0 :: s1 :: s2 :: s3 :: s4 :: s5 :: s6 :: s7 :: s8 :: s9 :: s10 :: s11 :: s12 :: s13 :: .own d0 :: r) fun n1 e1 d => ∃ ds es, d = .list es ∧ e1[14]? = some (.own ds) ∧ ds.length + es.length ≤ sizeLine ∧ W.nx n1 (e1.set 14 (.own (ds ++ es)))) : sExt 14 p W n (s0 :: s1 :: s2 :: s3 :: s4 :: s5 :: s6 :: s7 :: s8 :: s9 :: s10 :: s11 :: s12 :: s13 :: .own d0 :: r) := ⟨d0, rfl, h⟩
theorem st_gown14 {s0 s1 s2 s3 s4 s5 s6 s7 s8 s9 s10 s11 s12 s13 : Sl} {d : List D} {r : En} {P : List D → Prop} (h : P d) : ∃ ds, (s0 :: s1 :: s2 :: s3 :: s4 :: s5 :: s6 :: s7 :: s8 :: s9 :: s10 :: s11 :: s12 :: s13 :: Sl.own d :: r)[14]? = some (.own ds) ∧ P ds := ⟨d, rfl, h⟩
theorem st_gext14 {s0 s1 s2 s3 s4 s5 s6 s7 s8 s9 s10 s11 s12 s13 : Sl} {d x : List D} {r : En} {P : List D → List D → Prop} (h : P d x) : ∃ ds es, PyData.list x = .list es ∧ (s0 :: s1 :: s2 :: s3 :: s4 :: s5 :: s6 :: s7 :: s8 :: s9 :: s10 :: s11 :: s12 :: s13 :: Sl.own d :: r)[14]? = some (.own ds) ∧ P ds es := ⟨d, x, rfl, rfl, h⟩
theorem st_r15v {s0 s1 s2 s3 s4 s5 s6 s7 s8 s9 s10 s11 s12 s13 s14 : Sl} {d : D} {W : Pn} {n : Nat} {r : En} (h : W.rt n (.val d)) : sRetV 15 W n (s0 :: s1 :: s2 :: s3 :: s4 :: s5 :: s6 :: s7 :: s8 :: s9 :: s10 :: s11 :: s12 :: s13 :: s14 :: .val d :: r) := h
theorem st_r15o {s0 s1 s2 s3 s4 s5 s6 s7 s8 s9 s10 s11 s12 s13 s14 : Sl} {d : List D} {W : Pn} {n : Nat} {r : En} (h : W.rt n (.own d)) : sRetV 15 W n (s0 :: s1 :: s2 :: s3 :: s4 :: s5 :: s6 :: s7 :: s8 :: s9 :: s10 :: s11 :: s12 :: s13 :: s14 :: .own d :: r) := h
theorem st_m15v {s0 s1 s2 s3 s4 s5 s6 s7 s8 s9 s10 s11 s12 s13 s14 : Sl} {d : D} {n : Nat} {r : En} {Q : Nat → En → D → Prop} (h : Q n (s0 :: s1 :: s2 :: s3 :: s4 :: s5 :: s6 :: s7 :: s8 :: s9 :: s10 :: s11 :: s12 :: s13 :: s14 :: .val d :: r) d) : mVar 15 n (s0 :: s1 :: s2 :: s3 :: s4 :: s5 :: s6 :: s7 :: s8 :: s9 :: s10 :: s11 :: s12 :: s13 :: s14 :: .val d :: r) Q := h
theorem st_m15o {s0 s1 s2 s3 s4 s5 s6 s7 s8 s9 s10 s11 s12 s13 s14 : Sl} {d : List D} {n : Nat} {r : En} {Q : Nat → En → D → Prop} (h : Q n (s0 :: s1 :: s2 :: s3 :: s4 :: s5 :: s6 :: s7 :: s8 :: s9 :: s10 :: s11 :: s12 :: s13 :: s14 :: .val (.list d) :: r) (.list d)) : mVar 15 n (s0 :: s1 :: s2 :: s3 :: s4 :: s5 :: s6 :: s7 :: s8 :: s9 :: s10 :: s11 :: s12 :: s13 :: s14 :: .own d :: r) Q := h
theorem st_app15 {s0 s1 s2 s3 s4 s5 s6 s7 s8 s9 s10 s11 s12 s13 s14 : Sl} {d0 : List D} {p : MT} {W : Pn} {n : Nat} {r : En} (h : p n (s0 :: s1 :: s2 :: s3 :: s4 :: s5 :: s6 :: s7 :: s8 :: s9 :: s10 :: s11 :: s12 :: s13 :: s14 :: .own d0 :: r) fun n1 e1 d => ∃ ds, e1[15]? = some (.own ds) ∧ ds.length < sizeLine ∧ W.nx n1 (e1.set 15 (.own (ds ++ [d])))) : sApp 15 p W n (s0 :: s1 :: s2 :: s3 :: s4 :: s5 :: s6 :: s7 :: s8 :: s9 :: s10 :: s11 :: s12 :: s13 :: s14 :: .own d0 :: r) := ⟨d0, rfl, h⟩
theorem st_ext15 {s0 s1 s2 s3 s4 s5 s6 s7 s8 s9 s10 s11 s12 s13 s14 : Sl} {d0 : List D} {p : MT} {W : Pn} {n : Nat} {r : En} (h : p n (s0 :: s1 :: s2 :: s3 :: s4 :: s5 :: s6 :: s7 :: s8 :: s9 :: s10 :: s11 :: s12 :: s13 :: s14 :: .own d0 :: r) fun n1 e1 d => ∃ ds es, d = .list es ∧ e1[15]? = some (.own ds) ∧ ds.length + es.length ≤ sizeLine ∧ W.nx n1 (e1.set 15 (.own (ds ++ es)))) : sExt 15 p W n (s0 :: s1 :: s2 :: s3 :: s4 :: s5 :: s6 :: s7 :: s8 :: s9 :: s10 :: s11 :: s12 :: s13 :: s14 :: .own d0 :: r) := ⟨d0, rfl, h⟩
theorem st_gown15 {s0 s1 s2 s3 s4 s5 s6 s7 s8 s9 s10 s11 s12 s13 s14 : Sl} {d : List D} {r : En} {P : List D → Prop} (h : P d) : ∃ ds, (s0 :: s1 :: s2 :: s3 :: s4 :: s5 :: s6 :: s7 :: s8 :: s9 :: s10 :: s11 :: s12 :: s13 :: s14 :: Sl.own d :: r)[15]? = some (.own ds) ∧ P ds := ⟨d, rfl, h⟩
theorem st_gext15 {s0 s1 s2 s3 s4 s5 s6 s7 s8 s9 s10 s11 s12 s13 s14 : Sl} {d x : List D} {r : En} {P : List D → List D → Prop} (h : P d x) : ∃ ds es, PyData.list x = .list es ∧ (s0 :: s1 :: s2 :: s3 :: s4 :: s5 :: s6 :: s7 :: s8 :: s9 :: s10 :: s11 :: s12 :: s13 :: s14 :: Sl.own d :: r)[15]? = some (.own ds) ∧ P ds es := ⟨d, x, rfl, rfl, h⟩
theorem st_par {i j : Nat} {p q : RT} {W : Pn} {n : Nat} {e : En} (h : p n e fun n1 r1 => q n1 e fun n2 r2 => W.nx n2 (((if (lfr r1 && lfr r2) = true then e else frz e).set i r1.sl).set j r2.sl)) : sPar i j p q W n e := h
theorem st_asg {tg : Tgt} {p : MT} {W : Pn} {n : Nat} {e : En} (h : p n e fun n1 e1 d => ∃ l, tg d = some l ∧ W.nx n1 (updE e1 l)) : sAsg tg p W n e := h
theorem st_ex {p : MT} {W : Pn} {n : Nat} {e : En} (h : p n e fun n1 e1 _ => W.nx n1 e1) : sEx p W n e := h
theorem st_mR {p : RT} {n : Nat} {e : En} {Q : Nat → En → D → Prop} (h : p n e fun n1 r => Q n1 (keepR e r) r.d) : mR p n e Q := h
theorem st_mtup {p : MAT} {n : Nat} {e : En} {Q : Nat → En → D → Prop} (h : p n e fun n1 e1 ds => ds.length ≤ sizeLine ∧ Q n1 e1 (.tuple ds)) : mTup p n e Q := h
theorem st_mnil {n : Nat} {e : En} {Q : Nat → En → List D → Prop} (h : Q n e []) : mNil n e Q := h
theorem st_mcons {p : MT} {q : MAT} {n : Nat} {e : En} {Q : Nat → En → List D → Prop} (h : p n e fun n1 e1 d => q n1 e1 fun n2 e2 ds => Q n2 e2 (d :: ds)) : mCons p q n e Q := h
theorem st_for {s : IMT} {tg : Tgt} {p : ST} {W : Pn} {n : Nat} {e : En} (h : s n e fun n1 e1 ds => forL tg p ds W n1 e1) : sFor s tg p W n e := h
theorem st_imseq {p : MT} {n : Nat} {e : En} {Q : Nat → En → List D → Prop} (h : p n e fun n1 e1 d => ∃ ds, items d = some ds ∧ Q n1 e1 ds) : imSeq p n e Q := h
theorem st_iseq {p : VT} {n : Nat} {e : En} {Q : Nat → List D → Prop} (h : p n e fun n1 d => ∃ ds, items d = some ds ∧ Q n1 ds) : iSeq p n e Q := h
theorem st_imof {p : IT} {n : Nat} {e : En} {Q : Nat → En → List D → Prop} (h : p n e fun n1 ds => Q n1 (frz e) ds) : imOf p n e Q := h
theorem st_imr1 {p : VT} {n : Nat} {e : En} {Q : Nat → En → List D → Prop} (h : p n e fun n1 d => ∃ j : Int, d = .int j ∧ -(2 ^ 62) ≤ j ∧ j < 2 ^ 62 ∧ Q n1 e (rangeD 0 j.toNat)) : imRan1 p n e Q := h
theorem st_ir1 {p : VT} {n : Nat} {e : En} {Q : Nat → List D → Prop} (h : p n e fun n1 d => ∃ j : Int, d = .int j ∧ -(2 ^ 62) ≤ j ∧ j < 2 ^ 62 ∧ Q n1 (rangeD 0 j.toNat)) : iRan1 p n e Q := h
theorem st_imr2 {p q : VT} {n : Nat} {e : En} {Q : Nat → En → List D → Prop} (h : p n e fun n1 d => q n1 e fun n2 d2 => ∃ i j : Int, d = .int i ∧ d2 = .int j ∧ (-(2 ^ 62) ≤ i ∧ i < 2 ^ 62 ∧ -(2 ^ 62) ≤ j ∧ j < 2 ^ 62) ∧ Q n2 e (rangeD i (j - i).toNat)) : imRan2 p q n e Q := h
def enuK (d : D) (P : List D → Prop) : Prop := match d with
  | .list ds => P (pairsFrom 0 ds)
  | .tuple ds => P (pairsFrom 0 ds)
  | _ => False
def zipK (d1 d2 : D) (P : List D → Prop) : Prop := match d1, d2 with
  | .list ds, .list es => P (zipD ds es)
  | .tuple ds, .tuple es => P (zipD ds es)
  | _, _ => False
theorem st_enu {a : VT} {n : Nat} {e : En} {Q : Nat → List D → Prop} (h : a n e fun n1 d => enuK d (Q n1)) : iEnu a n e Q := h
theorem st_enl {ds : List D} {P : List D → Prop} (h : P (pairsFrom 0 ds)) : enuK (.list ds) P := h
theorem st_ent {ds : List D} {P : List D → Prop} (h : P (pairsFrom 0 ds)) : enuK (.tuple ds) P := h
theorem st_zip {a c : VT} {n : Nat} {e : En} {Q : Nat → List D → Prop} (h : a n e fun n1 d1 => c n1 e fun n2 d2 => zipK d1 d2 (Q n2)) : iZip2 a c n e Q := h
theorem st_zl {ds es : List D} {P : List D → Prop} (h : P (zipD ds es)) : zipK (.list ds) (.list es) P := h
theorem st_zt {ds es : List D} {P : List D → Prop} (h : P (zipD ds es)) : zipK (.tuple ds) (.tuple es) P := h
theorem st_lc {s : IT} {tg : Tgt} {tt : BT} {te : VT} {vs : List Nat} {n : Nat} {e : En} {Q : Nat → List D → Prop} (h : s n (frz e) fun n1 ds => compL tg tt te vs (frz e) ds [] n1 Q) : oLc s tg tt te vs n e Q := h
theorem st_lc2 {s : IT} {tg : Tgt} {tt : BT} {s1 : IT} {tg1 : Tgt} {tt1 : BT} {te : VT} {vs vs1 : List Nat} {n : Nat} {e : En} {Q : Nat → List D → Prop} (h : s n (frz e) fun n1 ds => comp2 tg tt s1 tg1 tt1 te vs vs1 (frz e) ds [] n1 Q) : oLc2 s tg tt s1 tg1 tt1 te vs vs1 n e Q := h
theorem comp2_go {tg tg1 : Tgt} {src1 : IT} {te : VT} {vs vs1 : List Nat} {e : En} {n : Nat} (g : D → List D) (g1 : D → D) : ∀ (ds acc : List D) (Q : Nat → List D → Prop), (∀ d ∈ ds, ∃ l xs, tg d = some l ∧ (∀ R : Nat → List D → Prop, R n xs → src1 n (updE (wipeE e vs) l) R) ∧ (∀ x ∈ xs, ∃ l1, tg1 x = some l1 ∧ ∀ R : Nat → D → Prop, R n (g1 x) → te n (updE (wipeE (updE (wipeE e vs) l) vs1) l1) R) ∧ g d = xs.map g1) →
    acc.length + (ds.flatMap g).length ≤ sizeLine → Q n (acc ++ ds.flatMap g) → comp2 tg bYes src1 tg1 bYes te vs vs1 e ds acc n Q
  | [], acc, Q, _, _, q => by
    rw [List.flatMap_nil, List.append_nil] at q
    exact q
  | d :: ds, acc, Q, h, hz, q => by
    obtain ⟨l, xs, hl, h1, h2, eg⟩ := h d List.mem_cons_self
    rw [List.flatMap_cons, List.length_append] at hz
    rw [List.flatMap_cons, ← List.append_assoc] at q
    rw [eg] at hz q
    refine ⟨l, hl, ?_⟩
    refine iteT (B := comp2 tg bYes src1 tg1 bYes te vs vs1 e ds acc n Q) (h1 _ ?_)
    refine comp_go g1 xs acc _ h2 (by rw [List.length_map] at hz; omega) ?_
    exact comp2_go g g1 ds _ Q (fun d' hd => h d' (List.mem_cons_of_mem _ hd)) (by rw [List.length_append]; omega) q
theorem st_oca {o : List D → (List D → Prop) → Prop} {a : AT} {n : Nat} {e : En} {Q : Nat → List D → Prop} (h : a n e fun n1 ds => o ds (Q n1)) : oCa o a n e Q := h
theorem st_cat {a c : VT} {n : Nat} {e : En} {Q : Nat → List D → Prop} (h : a n e fun n1 d1 => c n1 e fun n2 d2 => ∃ x y, d1 = .list x ∧ d2 = .list y ∧ x.length + y.length ≤ sizeLine ∧ Q n2 (x ++ y)) : oCat a c n e Q := h
theorem st_excat {x y : List D} {P : List D → List D → Prop} (h : P x y) : ∃ a c, PyData.list x = .list a ∧ PyData.list y = .list c ∧ P a c := ⟨x, y, rfl, rfl, h⟩
theorem st_sll {p : VT} {l u : NT} {n : Nat} {e : En} {Q : Nat → List D → Prop} (h : p n e fun n1 d => l n1 e fun n2 lo => u n2 e fun n3 hi => ∃ ds, d = .list ds ∧ Q n3 (cut ds lo hi)) : oSlL p l u n e Q := h
theorem st_sl {p : VT} {l u : NT} {n : Nat} {e : En} {Q : Nat → D → Prop} (h : p n e fun n1 d => l n1 e fun n2 lo => u n2 e fun n3 hi => oSl d lo hi (Q n3)) : pSl p l u n e Q := h
theorem st_rev {p : VT} {n : Nat} {e : En} {Q : Nat → List D → Prop} (h : p n e fun n1 d => ∃ ds, d = .list ds ∧ Q n1 ds.reverse) : oRev p n e Q := h
theorem st_nno {n : Nat} {e : En} {Q : Nat → Option Int → Prop} (h : Q n none) : nNo n e Q := h
theorem st_nat {p : VT} {n : Nat} {e : En} {Q : Nat → Option Int → Prop} (h : p n e fun n1 d => ∃ i, d = .int i ∧ Q n1 (some i)) : nAt p n e Q := h
theorem st_tname {i : Nat} {d : D} {P : List (Nat × D) → Prop} (h : P [(i, d)]) : ∃ l, tName i d = some l ∧ P l := ⟨_, rfl, h⟩
theorem st_tt2 {i j : Nat} {d d2 : D} {P : List (Nat × D) → Prop} (h : P [(i, d), (j, d2)]) : ∃ l, PL.tTup (tCons' (tName i) (tCons' (tName j) tNil')) (.tuple [d, d2]) = some l ∧ P l := ⟨_, rfl, h⟩
theorem st_bT {P : Prop} (h : P) : P := h
theorem fill_cc {x : PySem.Str} {N : List PySem.Str} {s : Sl} {e : En} : PL.fill (x :: N) (s :: e) = s :: PL.fill N e := by
  unfold PL.fill
  rw [List.length_cons, List.length_cons, Nat.add_sub_add_right]
  rfl
theorem fill_cn {x : PySem.Str} {N : List PySem.Str} : PL.fill (x :: N) [] = .un :: PL.fill N [] := by
  unfold PL.fill
  show List.replicate (N.length + 1) Sl.un = _
  rw [List.replicate_succ]
  rfl
theorem fill_nn : PL.fill [] [] = [] := rfl
theorem st_mod {i j : Int} {Q : D → Prop} (hj : 0 < j) (h : Q (.int (i % j))) : oMod (.int i) (.int j) Q := ⟨hj, h⟩
theorem cdivw_60 {i j : Int} (hj : 0 < j) (h2 : j < 1152921504606846976) : CDivW i j := ⟨hj, by have : j.natAbs.log2 < 60 := (Nat.log2_lt (by omega)).mpr (by omega); omega⟩
theorem st_fdv {i j : Int} {Q : D → Prop} (hj : 0 < j) (h2 : j < 1152921504606846976) (h : Q (.int (i / j))) : oFdv (.int i) (.int j) Q := ⟨cdivw_60 hj h2, h⟩
theorem st_mull {i j : Int} {Q : D → Prop} (h1 : -1152921504606846976 < i) (h2 : i < 1152921504606846976) (h : Q (.int (i * j))) : oMul (.int i) (.int j) Q := ⟨.inl (.inl ⟨by omega, by omega⟩), h⟩
theorem st_mulr {i j : Int} {Q : D → Prop} (h1 : -1152921504606846976 < j) (h2 : j < 1152921504606846976) (h : Q (.int (i * j))) : oMul (.int i) (.int j) Q := ⟨.inl (.inr ⟨by omega, by omega⟩), h⟩
theorem st_pow {i j : Int} {Q : D → Prop} (h1 : 0 ≤ j) (h2 : j ≤ 1000000) (h3 : i.natAbs < 2 ^ 64) (h : Q (.int (i ^ j.toNat))) : oPow (.int i) (.int j) Q := ⟨⟨h1, h2, h3⟩, h⟩
end PL

set_option Elab.async false
set_option linter.all false
set_option maxRecDepth 100000
set_option maxHeartbeats 4000000
/-! ## k20: what each def answers -/
namespace K20
open PySem PySem.Spec PyProof.Rows L2 PL
open Classical
/-! ### numbers that a base makes -/
inductive Gn (B : List Nat) : Nat → Prop
  | one : Gn B 1
  | mul {b n : Nat} : b ∈ B → Gn B n → Gn B (b * n)
/-- a coprime base, in order -/
structure CB (B : List Nat) : Prop where
  two : ∀ b ∈ B, 2 ≤ b
  cop : B.Pairwise fun a c => Nat.gcd a c = 1
/-- the coprime base of these numbers -/
structure IsB (ns B : List Nat) : Prop where
  cb : CB B
  srt : B.Pairwise (· < ·)
  gen : ∀ n ∈ ns, Gn B n
  least : ∀ B', CB B' → (∀ n ∈ ns, Gn B' n) → ∀ m ∈ B, Gn B' m
/-- how often part goes into n, and what is left -/
def split1 (part : Nat) : Nat → Nat → Nat × Nat
  | 0, n => (0, n)
  | k + 1, n => if n % part = 0 then ((split1 part k (n / part)).1 + 1, (split1 part k (n / part)).2) else (0, n)
def splitAll : List Nat → Nat → List Nat × Nat
  | [], n => ([], n)
  | p :: ps, n => ((split1 p n n).1 :: (splitAll ps (split1 p n n).2).1, (splitAll ps (split1 p n n).2).2)
def dn (n : Nat) : D := .int (n : Int)
def nL (ns : List Nat) : List D := ns.map fun (n : Nat) => PyData.int (n : Int)
def expoD (B : List Nat) (n : Nat) : D := if (splitAll B n).2 = 1 then .tuple (nL (splitAll B n).1) else .none
def expoL (B : List Nat) (n : Nat) : D := if (splitAll B n).2 = 1 then .list (nL (splitAll B n).1) else .none
def S (s : String) : PySem.Str := PySem.Str.ofString s
def tsI (i : Int) : PySem.Str := PySem.Str.ofString (toString i)
/-! ### the program -/
def isI : D → Bool
  | .int _ => true
  | _ => false
def f_is_integer : FT := fun ds Q => match ds with
  | [d] => Q (.val (.bool (isI d)))
  | _ => False
def figs (z : PySem.Str) : PySem.Str := if cutT z none (some 1) = S "-" then cutT z (some 1) none else z
def isFig (c : Nat) : Bool := decide (c ∈ (S "0123456789").cps.toList)
def okI (z : PySem.Str) : Bool := decide (1 ≤ (figs z).length) && decide ((figs z).length ≤ 300) && (figs z).cps.toList.all isFig && !(decide ((figs z).cps.toList[0]? = some 48) && (decide (1 < (figs z).length) || decide (z ≠ figs z)))
def rI (z : PySem.Str) : D := if okI z = true then (match PySem.intText? z with | some n => .int n | none => .none) else .none
def f_read_integer : FT := fun ds Q => match ds with
  | [.str z] => z.length ≤ 10000 ∧ Q (.val (rI z))
  | _ => False
def f_common : FT := fun ds Q => match ds with
  | [.int a, .int b] => Q (.val (dn (Nat.gcd a.natAbs b.natAbs)))
  | _ => False
def isFr : D → Bool
  | .tuple [.int a, .int b] => decide (1 ≤ b) && decide (Nat.gcd a.natAbs b.natAbs = 1)
  | _ => false
def f_is_fraction : FT := fun ds Q => match ds with
  | [.tuple [.int a, .int b]] => Q (.val (.bool (isFr (.tuple [.int a, .int b]))))
  | _ => False
def f_is_told_fraction : FT := fun ds Q => match ds with
  | [.tuple [.int a, .int b]] => Q (.val (.bool (isFr (.tuple [.int a, .int b]) && decide ((a.natAbs : Int) < v10) && decide (b < v10))))
  | _ => False
where v10 : Int := ((10 ^ 300 : Nat) : Int)
def f_integer_text : FT := fun ds Q => match ds with
  | [.int i] => i.natAbs.log2 < 1900 ∧ Q (.val (.str (tsI i)))
  | _ => False
def f_fraction_text : FT := fun ds Q => match ds with
  | [.tuple [.int a, .int b]] => a.natAbs.log2 < 1900 ∧ b.natAbs.log2 < 1900 ∧ Q (.val (.str (if b = 1 then tsI a else tsI a ++ S "/" ++ tsI b)))
  | _ => False
def rF (z : PySem.Str) : D := match (Txt.split z (S "/")).map rI with
  | [.int a] => .tuple [.int a, .int 1]
  | [.int a, .int b] => if decide (1 < b) && isFr (.tuple [.int a, .int b]) then .tuple [.int a, .int b] else .none
  | _ => .none
def f_read_fraction : FT := fun ds Q => match ds with
  | [.str z] => z.length ≤ 9000 ∧ Q (.val (rF z))
  | [.none] => Q (.val .none)
  | [.int _] => Q (.val .none)
  | [.bool _] => Q (.val .none)
  | [.tuple _] => Q (.val .none)
  | _ => False
def f_base_of : FT := fun ds Q => ∃ ns : List Nat, (ds = [.list (nL ns)] ∨ ds = [.tuple (nL ns)]) ∧ (∀ n ∈ ns, 1 ≤ n ∧ n < 2 ^ 20) ∧ ns.length ≤ 1000 ∧ ∀ B, IsB ns B → Q (.own (nL B))
def f_exponent_in : FT := fun ds Q => match ds with
  | [.int a, .int p] => ∃ n m : Nat, a = n ∧ p = m ∧ 1 ≤ n ∧ n < 2 ^ 20 ∧ 2 ≤ m ∧ m < 2 ^ 20 ∧ Q (.val (.tuple [dn (split1 m n n).1, dn (split1 m n n).2]))
  | _ => False
def f_exponents_by : FT := fun ds Q => ∃ (B : List Nat) (n : Nat), ds = [.tuple (nL B), dn n] ∧ 1 ≤ n ∧ n < 2 ^ 20 ∧ (∀ b ∈ B, 2 ≤ b ∧ b < 2 ^ 20) ∧ B.length ≤ 1000 ∧ Q (.val (expoD B n))
def frD (p : Nat × Nat) : D := .tuple [dn p.1, dn p.2]
structure Fr (p : Nat × Nat) : Prop where
  a1 : 1 ≤ p.1
  a2 : p.1 < 2 ^ 20
  b1 : 1 ≤ p.2
  b2 : p.2 < 2 ^ 20
  co : Nat.gcd p.1 p.2 = 1
def partsOf (ps : List (Nat × Nat)) : List Nat := ps.flatMap fun p => [p.1, p.2]
def f_check_based : FT := fun ds Q => ∃ ps : List (Nat × Nat), ds = [.tuple (ps.map frD)] ∧ (∀ p ∈ ps, Fr p) ∧ ps.length ≤ 40 ∧ Q (.val .none)
def f_coprime_base : FT := fun ds Q => ∃ ps : List (Nat × Nat), ds = [.tuple (ps.map frD)] ∧ (∀ p ∈ ps, Fr p) ∧ ps.length ≤ 40 ∧ ∀ B, IsB (partsOf ps) B → Q (.val (.tuple (nL B)))
def diffs (xs ys : List Nat) : List D := (xs.zip ys).map fun p => PyData.int ((p.1 : Int) - (p.2 : Int))
def overD (B : List Nat) (p : Nat × Nat) : D := if (splitAll B p.1).2 = 1 ∧ (splitAll B p.2).2 = 1 then .tuple (diffs (splitAll B p.1).1 (splitAll B p.2).1) else .none
def f_exponents_over : FT := fun ds Q => ∃ (B : List Nat) (p : Nat × Nat), ds = [.tuple (nL B), frD p] ∧ CB B ∧ B.Pairwise (· < ·) ∧ (∀ b ∈ B, b < 2 ^ 20) ∧ B.length ≤ 1000 ∧ Fr p ∧ Q (.val (overD B p))
/-! ### the law -/
def f_law_common : FT := fun ds Q => match ds with
  | [.int a, .int b] => 0 ≤ a ∧ 0 ≤ b ∧ a < 2 ^ 60 ∧ b < 2 ^ 60 ∧ Q (.val (dn (Nat.gcd a.natAbs b.natAbs)))
  | _ => False
def Most : Nat := 2 ^ 20
def f_law_take : FD := fun n ds Q => match ds with
  | [.int u] => 0 < u ∧ u < 2 ^ 60 ∧ n < Most ∧ ∀ r n' : Nat, (r : Int) < u → n' ≤ n + 1 → Q n' (.val (dn r))
  | _ => False
def f_law_of : FD := fun n ds Q => ∃ xs : List D, (ds = [.list xs] ∨ ds = [.tuple xs]) ∧ xs ≠ [] ∧ xs.length ≤ 1000 ∧ n < Most ∧ ∀ d ∈ xs, ∀ n', n' ≤ n + 1 → Q n' (.val d)
def f_law_reduced : FT := fun ds Q => match ds with
  | [.int t, .int l] => 0 < l ∧ t.natAbs < 2 ^ 200 ∧ l < 2 ^ 200 ∧ Q (.val (.tuple [.int (t / (Nat.gcd t.natAbs l.natAbs : Nat)), .int (l / (Nat.gcd t.natAbs l.natAbs : Nat))]))
  | _ => False
def f_law_some : FD := fun n ds Q => ∃ xs : List D, ds = [.list xs, dn xs.length] ∧ xs.length ≤ 100 ∧ lfs xs = true ∧ n + xs.length ≤ Most ∧ ∀ (ys : List D) (n' : Nat), ys.Perm xs → n' ≤ n + xs.length → Q n' (.own ys)
def f_law_cells : List Int → FT := fun ns ds Q => ds = [.int 3] ∧ ns.length ≤ 63 ∧ ∀ k : Nat, 1 ≤ k → k ≤ 3 → Q (.own (rangeD 0 k))
def f_law_pot : List Int → FT := fun ns ds Q => ∃ k : Nat, ds = [dn k] ∧ k ≤ 3 ∧ ns.length ≤ 63 ∧ ∀ x y : Int, 0 ≤ x → x < 10 ^ 300 → 0 ≤ y → y < 2305843009213693921 → Q (.own [.int x, .int y, .int 0])
def f_law_base : FT := fun ds Q => ∃ ns : List Nat, ds = [.list (nL ns)] ∧ (∀ n ∈ ns, 1 ≤ n ∧ n < 2 ^ 17) ∧ ns.length ≤ 14 ∧ ∀ B, IsB ns B → Q (.val (.tuple (nL B)))
def f_law_exponents : FT := fun ds Q => ∃ (B : List Nat) (n : Nat), ds = [.tuple (nL B), dn n] ∧ 1 ≤ n ∧ n < 2 ^ 20 ∧ (∀ b ∈ B, 2 ≤ b ∧ b < 2 ^ 20) ∧ B.length ≤ 1000 ∧ Q (.val (expoL B n))
def f_law_lot : FD := fun n ds Q => ds = [] ∧ n + 100 ≤ Most ∧ ∀ (ps : List (Nat × Nat)) (n' : Nat), (∀ p ∈ ps, Fr p ∧ p.1 < 2 ^ 17 ∧ p.2 < 2 ^ 17) → ps.length ≤ 7 → n' ≤ n + 100 → Q n' (.own (ps.map frD))
def f_law_are_strings_right : FD := fun n ds Q => ds = [] ∧ n + 100 ≤ Most ∧ ∀ n', n' ≤ n + 100 → Q n' (.val (.bool true))
def f_law_right : FD := fun n ds Q => ds = [] ∧ n + 200 ≤ Most ∧ ∀ n', n' ≤ n + 200 → Q n' (.val (.bool true))
def f_law : List Int → FT := fun ns ds Q => ds = [] ∧ ns.length ≤ 63 ∧ Q (.val (.bool true))
end K20

set_option Elab.async false
set_option linter.all false
set_option maxRecDepth 100000
set_option maxHeartbeats 4000000
namespace K20
open PySem PySem.Spec PyProof.Rows L2 PL
open Classical
def v_BEYOND : Int := ((10 ^ 300 : Nat) : Int)
def v_FIGURES : PySem.Str := (("0123456789" : PySem.Str))
def v_MINUS : PySem.Str := (("-" : PySem.Str))
def v_MOST_BASED : Int := 40
def v_MOST_FIGURES : Int := 300
def v_PART : Int := ((10 ^ 4000 : Nat) : Int)
def v_STROKE : PySem.Str := (("/" : PySem.Str))
-- ['value']
def p_is_integer : ST := (sRet (rV (pAnd (pIsi "int" (pVar 0)) (pNot (pIsi "bool" (pVar 0))))))
-- ['text', 'figures', 'sign']
def p_read_integer : ST := (sSeq (sSet 1 (rV (pIf (bVal (pBin oEqS (pSl (pVar 0) nNo (nAt (pC (.int 1)))) (pC (.str v_MINUS)))) (pSl (pVar 0) (nAt (pC (.int 1))) nNo) (pVar 0))))
  (sSeq (sIf (bOr (bNot (bVal (pChain oLe oLe (pC (.int 1)) (pCa oLen (pCons (pVar 1) pNil)) (pC (.int v_MOST_FIGURES))))) (bNot (bVal (pCa oAll (pCons (vR (rO (oLc (iSeq (pVar 1)) (tName 2) bYes (pBin oIn (pVar 2) (pC (.str v_FIGURES))) [2]))) pNil))))) (sRet (rV (pC .none))) sNext)
  (sSeq (sIf (bAnd (bVal (pBin oEqS (pBin oIx (pVar 1) (pC (.int 0))) (pC (.str (("0" : PySem.Str)))))) (bOr (bVal (pBin oGt (pCa oLen (pCons (pVar 1) pNil)) (pC (.int 1)))) (bVal (pBin oNeS (pVar 0) (pVar 1))))) (sRet (rV (pC .none))) sNext)
  (sRet (rV (pCa oInt (pCons (pVar 0) pNil)))))))
-- ['one', 'other']
def p_common : ST := (sRet (rV (pCa oGcd (pCons (pVar 0) (pCons (pVar 1) pNil)))))
-- ['value', 'part']
def p_is_fraction : ST := (sSeq (sIf (bOr (bNot (bVal (pIsi "tuple" (pVar 0)))) (bOr (bVal (pBin oNe (pCa oLen (pCons (pVar 0) pNil)) (pC (.int 2)))) (bNot (bVal (pCa oAll (pCons (vR (rO (oLc (iSeq (pVar 0)) (tName 1) bYes (vR (rCall f_is_integer 1 (pCons (pVar 1) pNil))) [1]))) pNil)))))) (sRet (rV (pC (.bool false)))) sNext)
  (sRet (rV (pAnd (pBin oGe (pBin oIx (pVar 0) (pC (.int 1))) (pC (.int 1))) (pBin oEq (vR (rCall f_common 2 (pCons (pBin oIx (pVar 0) (pC (.int 0))) (pCons (pBin oIx (pVar 0) (pC (.int 1))) pNil)))) (pC (.int 1)))))))
-- ['value']
def p_is_told_fraction : ST := (sRet (rV (pAnd (vR (rCall f_is_fraction 1 (pCons (pVar 0) pNil))) (pAnd (pBin oLt (pCa oAbs (pCons (pBin oIx (pVar 0) (pC (.int 0))) pNil)) (pC (.int v_BEYOND))) (pBin oLt (pBin oIx (pVar 0) (pC (.int 1))) (pC (.int v_BEYOND)))))))
-- ['one', 'parts', 'rest']
def p_integer_text (Φs : FT) : ST := (sSeq (sIf (bVal (pBin oLt (pVar 0) (pC (.int 0)))) (sRet (rV (pBin oAdd (pC (.str v_MINUS)) (vR (rCall Φs 1 (pCons (pBin oSub (pC (.int 0)) (pVar 0)) pNil)))))) sNext)
  (sSeq (sPar 1 2 (rO (oLst pNil)) (rV (pVar 0)))
  (sSeq (sWhile (bVal (pBin oGe (pVar 2) (pC (.int v_PART)))) (sSeq (sApp 1 (mR (rV (pSl (pCa oStr (pCons (pBin oAdd (pBin oMod (pVar 2) (pC (.int v_PART))) (pC (.int v_PART))) pNil)) (nAt (pC (.int 1))) nNo))))
  (sSet 2 (rV (pBin oFdv (pVar 2) (pC (.int v_PART)))))))
  (sRet (rV (pBin oAdd (pCa oStr (pCons (pVar 2) pNil)) (pM1 oJoin (pC (.str (("" : PySem.Str)))) (vR (rO (oRev (pVar 1)))))))))))
-- ['one']
def p_fraction_text : ST := (sRet (rV (pIf (bVal (pBin oEq (pBin oIx (pVar 0) (pC (.int 1))) (pC (.int 1)))) (vR (rCall f_integer_text 1 (pCons (pBin oIx (pVar 0) (pC (.int 0))) pNil))) (pBin oAdd (pBin oAdd (vR (rCall f_integer_text 1 (pCons (pBin oIx (pVar 0) (pC (.int 0))) pNil))) (pC (.str v_STROKE))) (vR (rCall f_integer_text 1 (pCons (pBin oIx (pVar 0) (pC (.int 1))) pNil)))))))
-- ['text', 'parts', 'numbers', 'found', 'part']
def p_read_fraction : ST := (sSeq (sSet 1 (rV (pIf (bVal (pIsi "str" (pVar 0))) (pM1 oSplit (pVar 0) (pC (.str v_STROKE))) (vR (rO (oLst pNil))))))
  (sSeq (sSet 2 (rO (oLc (iSeq (pVar 1)) (tName 4) bYes (vR (rCall f_read_integer 1 (pCons (pVar 4) pNil))) [4])))
  (sSeq (sIf (bOr (bNot (bVal (pChain oLe oLe (pC (.int 1)) (pCa oLen (pCons (pVar 1) pNil)) (pC (.int 2))))) (bVal (pBin oIn (pC .none) (pVar 2)))) (sRet (rV (pC .none))) sNext)
  (sSeq (sIf (bVal (pBin oEq (pCa oLen (pCons (pVar 1) pNil)) (pC (.int 1)))) (sRet (rV (pTup (pCons (pBin oIx (pVar 2) (pC (.int 0))) (pCons (pC (.int 1)) pNil))))) sNext)
  (sSeq (sSet 3 (rV (pTup (pCons (pBin oIx (pVar 2) (pC (.int 0))) (pCons (pBin oIx (pVar 2) (pC (.int 1))) pNil)))))
  (sRet (rV (pIf (bAnd (bVal (pBin oGt (pBin oIx (pVar 2) (pC (.int 1))) (pC (.int 1)))) (bVal (vR (rCall f_is_fraction 1 (pCons (pVar 3) pNil))))) (pVar 3) (pC .none)))))))))
-- ['numbers', 'found', 'number', 'waiting', 'one', 'some', 'other', 'both', 'at']
def p_base_of : ST := (sSeq (sSet 1 (rO (oLst pNil)))
  (sSeq (sFor (imSeq (mVar 0)) (tName 2) (sSeq (sSet 3 (rO (oLst (pCons (pVar 2) pNil))))
  (sWhile (bVal (pBin oNe (pVar 3) (vR (rO (oLst pNil))))) (sSeq (sAsg (tName 4) (mPop 3))
  (sSeq (sSet 5 (rO (oLc (iEnu (pVar 1)) (tTup (tCons' (tName 8) (tCons' (tName 6) tNil'))) (bVal (pBin oGt (vR (rCall f_common 2 (pCons (pVar 4) (pCons (pVar 6) pNil)))) (pC (.int 1)))) (pVar 8) [8, 6])))
  (sIf (bAnd (bVal (pBin oGt (pVar 4) (pC (.int 1)))) (bVal (pBin oEq (pVar 5) (vR (rO (oLst pNil)))))) (sApp 1 (mVar 4)) (sIf (bVal (pBin oGt (pVar 4) (pC (.int 1)))) (sSeq (sAsg (tName 6) (mPopAt 1 (pBin oIx (pVar 5) (pC (.int 0)))))
  (sSeq (sSet 7 (rCall f_common 2 (pCons (pVar 4) (pCons (pVar 6) pNil))))
  (sExt 3 (mR (rO (oLst (pCons (pBin oFdv (pVar 4) (pVar 7)) (pCons (pBin oFdv (pVar 6) (pVar 7)) (pCons (pVar 7) pNil))))))))) sNext)))))))
  (sRet (rO (oCa oSortI (pCons (pVar 1) pNil))))))
-- ['number', 'part', 'found', 'left']
def p_exponent_in : ST := (sSeq (sPar 2 3 (rV (pC (.int 0))) (rV (pVar 0)))
  (sSeq (sWhile (bVal (pBin oEq (pBin oMod (pVar 3) (pVar 1)) (pC (.int 0)))) (sPar 2 3 (rV (pBin oAdd (pVar 2) (pC (.int 1)))) (rV (pBin oFdv (pVar 3) (pVar 1)))))
  (sRet (rV (pTup (pCons (pVar 2) (pCons (pVar 3) pNil)))))))
-- ['base', 'number', 'found', 'left', 'part', 'many']
def p_exponents_by : ST := (sSeq (sPar 2 3 (rO (oLst pNil)) (rV (pVar 1)))
  (sSeq (sFor (imSeq (mVar 0)) (tName 4) (sSeq (sAsg (tTup (tCons' (tName 5) (tCons' (tName 3) tNil'))) (mR (rCall f_exponent_in 2 (pCons (pVar 3) (pCons (pVar 4) pNil)))))
  (sApp 2 (mVar 5))))
  (sRet (rV (pIf (bVal (pBin oEq (pVar 3) (pC (.int 1)))) (pCa oTuple (pCons (pVar 2) pNil)) (pC .none))))))
-- ['numbers', 'one']
def p_check_based : ST := (sSeq (sIf (bOr (bNot (bVal (pIsi "tuple" (pVar 0)))) (bVal (pBin oGt (pCa oLen (pCons (pVar 0) pNil)) (pC (.int v_MOST_BASED))))) sNever sNext)
  (sIf (bNot (bVal (pCa oAll (pCons (vR (rO (oLc (iSeq (pVar 0)) (tName 1) bYes (pAnd (vR (rCall f_is_told_fraction 1 (pCons (pVar 1) pNil))) (pBin oGt (pBin oIx (pVar 1) (pC (.int 0))) (pC (.int 0)))) [1]))) pNil)))) sNever sNext))
-- ['numbers', 'one', 'part']
def p_coprime_base : ST := (sSeq (sEx (mR (rCall f_check_based 1 (pCons (pVar 0) pNil))))
  (sRet (rV (pCa oTuple (pCons (vR (rCall f_base_of 1 (pCons (vR (rO (oLc2 (iSeq (pVar 0)) (tName 1) bYes (iSeq (pVar 1)) (tName 2) bYes (pVar 2) [1, 2] [2]))) pNil))) pNil)))))
-- ['base', 'number', 'top', 'low', 'more', 'less', 'one']
def p_exponents_over : ST := (sSeq (sIf (bOr (bNot (bVal (pIsi "tuple" (pVar 0)))) (bNot (bVal (pCa oAll (pCons (vR (rO (oLc (iSeq (pVar 0)) (tName 6) bYes (vR (rCall f_is_integer 1 (pCons (pVar 6) pNil))) [6]))) pNil))))) sNever sNext)
  (sSeq (sIf (bOr (bNot (bVal (pCa oAll (pCons (vR (rO (oLc (iSeq (pVar 0)) (tName 6) bYes (pBin oGt (pVar 6) (pC (.int 1))) [6]))) pNil)))) (bVal (pBin oNe (vR (rO (oCa oList (pCons (pVar 0) pNil)))) (vR (rCall f_base_of 1 (pCons (pVar 0) pNil)))))) sNever sNext)
  (sSeq (sIf (bOr (bNot (bVal (vR (rCall f_is_told_fraction 1 (pCons (pVar 1) pNil))))) (bVal (pBin oLt (pBin oIx (pVar 1) (pC (.int 0))) (pC (.int 1))))) sNever sNext)
  (sSeq (sPar 2 3 (rCall f_exponents_by 2 (pCons (pVar 0) (pCons (pBin oIx (pVar 1) (pC (.int 0))) pNil))) (rCall f_exponents_by 2 (pCons (pVar 0) (pCons (pBin oIx (pVar 1) (pC (.int 1))) pNil))))
  (sRet (rV (pIf (bVal (pBin oIn (pC .none) (pTup (pCons (pVar 2) (pCons (pVar 3) pNil))))) (pC .none) (pCa oTuple (pCons (vR (rO (oLc (iZip2 (pVar 2) (pVar 3)) (tTup (tCons' (tName 4) (tCons' (tName 5) tNil'))) bYes (pBin oSub (pVar 4) (pVar 5)) [4, 5]))) pNil)))))))))
-- ['one', 'other']
def p_law_common : ST := (sSeq (sWhile (bVal (pBin oNe (pVar 1) (pC (.int 0)))) (sPar 0 1 (rV (pVar 1)) (rV (pBin oMod (pVar 0) (pVar 1)))))
  (sRet (rV (pCa oAbs (pCons (pCa oInt (pCons (pVar 0) pNil)) pNil)))))
-- ['pot', 'upto', 'digit', 'prime', 'blend']
def p_law_take : ST := (sSeq (sIf (bVal (pBin oGt (pPot0 0) (pC (.int 0)))) (sSeq (sSet 2 (rV (pBin oMod (pCa oInt (pCons (pPot0 0) pNil)) (pVar 1))))
  (sSeq (sPot0 0 (pBin oFdv (pPot0 0) (pVar 1)))
  (sRetV 2))) sNext)
  (sSeq (sPot2 0 (pBin oAdd (pPot2 0) (pC (.int 1))))
  (sSeq (sSet 3 (rV (pBin oIx (vR (rO (oLst (pCons (pC (.int 2147483647)) (pCons (pC (.int 2147483629)) (pCons (pC (.int 2147483587)) (pCons (pC (.int 2147483579)) (pCons (pC (.int 2147483563)) pNil)))))))) (pBin oMod (pCa oInt (pCons (pPot2 0) pNil)) (pC (.int 5))))))
  (sSeq (sSet 4 (rV (pBin oMod (pCa oInt (pCons (pBin oPow (pCa oInt (pCons (pBin oAdd (pBin oAdd (pPot1 0) (pBin oMul (pBin oMul (pC (.int 176303)) (pPot2 0)) (pPot2 0))) (pC (.int 58787))) pNil)) (pC (.int 3))) pNil)) (pVar 3))))
  (sSeq (sSet 4 (rV (pBin oMod (pCa oInt (pCons (pBin oMul (pVar 4) (pBin oAdd (pBin oMod (pCa oInt (pCons (pVar 4) pNil)) (pC (.int 118273))) (pBin oMul (pC (.int 89)) (pPot2 0)))) pNil)) (pC (.int 2305843009213693907)))))
  (sRet (rV (pBin oMod (pCa oInt (pCons (pBin oFdv (pVar 4) (pC (.int 131))) pNil)) (pVar 1)))))))))
-- ['pot', 'some']
def p_law_of : ST := (sRet (rV (pBin oIx (pVar 1) (vR (rCallD 0 f_law_take 1 (pCons (pCa oLen (pCons (pVar 1) pNil)) pNil))))))
-- ['top', 'low', 'one', 'other', 'by']
def p_law_reduced : ST := (sSeq (sPar 2 3 (rV (pCa oAbs (pCons (pCa oInt (pCons (pVar 0) pNil)) pNil))) (rV (pCa oAbs (pCons (pCa oInt (pCons (pVar 1) pNil)) pNil))))
  (sSeq (sWhile (bVal (pBin oNe (pVar 3) (pC (.int 0)))) (sPar 2 3 (rV (pVar 3)) (rV (pBin oMod (pVar 2) (pVar 3)))))
  (sSeq (sSet 4 (rV (pIf (bVal (pBin oGt (pVar 1) (pC (.int 0)))) (pVar 2) (pBin oSub (pC (.int 0)) (pVar 2)))))
  (sRet (rV (pTup (pCons (pCa oInt (pCons (pBin oFdv (pVar 0) (pVar 4)) pNil)) (pCons (pCa oInt (pCons (pBin oFdv (pVar 1) (pVar 4)) pNil)) pNil))))))))
-- ['pot', 'some', 'amount', 'left', 'found', 'lap']
def p_law_some : ST := (sSeq (sPar 3 4 (rO (oCa oList (pCons (pVar 1) pNil))) (rO (oLst pNil)))
  (sSeq (sFor (imRan1 (pVar 2)) (tName 5) (sApp 4 (mPopAt 3 (vR (rCallD 0 f_law_take 1 (pCons (pCa oLen (pCons (pVar 3) pNil)) pNil))))))
  (sRetV 4)))
-- ['script', 'limit']
def p_law_cells (a : Addr) (ns : List Int) : ST := (sRet (rO (oLrange1 (pCa oMax2 (pCons (pC (.int 1)) (pCons (pCa oMin2 (pCons (pVar 1) (pCons (pKnLen 0 a ns) pNil))) pNil))))))
-- ['script', 'place', 'cell', 'own', 'small']
def p_law_pot (a : Addr) (ns : List Int) : ST := (sSeq (sSet 2 (rV (pIf (bVal (pBin oLt (pVar 1) (pKnLen 0 a ns))) (pKnIx 0 a ns (pVar 1)) (pBin oAdd (pBin oAdd (pBin oMod (pCa oSum (pCons (pKnSl 0 a ns nNo (nAt (pC (.int 1)))) pNil)) (pC (.int 1000003))) (pBin oMul (pC (.int 86453)) (pVar 1))) (pC (.int 127681))))))
  (sSeq (sSet 3 (rV (pBin oMul (pBin oMod (pCa oInt (pCons (pCa oAbs (pCons (pVar 2) pNil)) pNil)) (pBin oPowB (pBin oPow (pC (.int 10)) (pC (.int 60))) (pC (.int 5)))) (pCa oInt (pCons (pBin oGe (pCa oAbs (pCons (pVar 2) pNil)) (pBin oPow (pC (.int 10)) (pC (.int 18)))) pNil)))))
  (sSeq (sSet 4 (rV (pBin oMod (pCa oInt (pCons (pVar 2) pNil)) (pC (.int 2305843009213693951)))))
  (sRet (rO (oLst (pCons (pVar 3) (pCons (pBin oMod (pCa oInt (pCons (pBin oAdd (pBin oAdd (pBin oMul (pVar 4) (pC (.int 614657))) (pBin oMul (pBin oMul (pC (.int 99173)) (pVar 1)) (pVar 1))) (pC (.int 58787))) pNil)) (pC (.int 2305843009213693921))) (pCons (pC (.int 0)) pNil)))))))))
-- ['numbers', 'left', 'found', 'lap', 'one', 'hits', 'other', 'both', 'its']
def p_law_base : ST := (sSeq (sPar 1 2 (rO (oLc (iSeq (pVar 0)) (tName 4) bYes (pCa oInt (pCons (pVar 4) pNil)) [4])) (rO (oLst pNil)))
  (sSeq (sFor (imRan1 (pC (.int 4000))) (tName 3) (sSeq (sIf (bVal (pBin oEq (pVar 1) (vR (rO (oLst pNil))))) sBreak sNext)
  (sSeq (sAsg (tTup (tCons' (tName 4) (tCons' (tName 1) tNil'))) (mTup (mCons (mR (rV (pBin oIx (pVar 1) (pC (.int 0))))) (mCons (mR (rO (oSlL (pVar 1) (nAt (pC (.int 1))) nNo))) mNil))))
  (sSeq (sSet 5 (rO (oLc (iSeq (pVar 2)) (tName 6) (bVal (pBin oGt (vR (rCall f_law_common 2 (pCons (pVar 4) (pCons (pVar 6) pNil)))) (pC (.int 1)))) (pVar 6) [6])))
  (sIf (bAnd (bVal (pBin oGt (pVar 4) (pC (.int 1)))) (bVal (pBin oEq (pVar 5) (vR (rO (oLst pNil)))))) (sApp 2 (mVar 4)) (sIf (bVal (pBin oGt (pVar 4) (pC (.int 1)))) (sSeq (sSet 6 (rV (pBin oIx (pVar 5) (oNeg (pC (.int 1))))))
  (sSeq (sSet 7 (rCall f_law_common 2 (pCons (pVar 4) (pCons (pVar 6) pNil))))
  (sSeq (sSet 2 (rO (oLc (iSeq (pVar 2)) (tName 8) (bVal (pBin oNe (pVar 8) (pVar 6))) (pVar 8) [8])))
  (sSet 1 (rO (oCat (vR (rO (oLst (pCons (pVar 7) (pCons (pBin oFdv (pVar 4) (pVar 7)) (pCons (pBin oFdv (pVar 6) (pVar 7)) pNil)))))) (pVar 1))))))) sNext))))))
  (sRet (rV (pCa oTuple (pCons (vR (rO (oCa oSortI (pCons (pVar 2) pNil)))) pNil))))))
-- ['base', 'number', 'found', 'left', 'part', 'often', 'lap']
def p_law_exponents : ST := (sSeq (sPar 2 3 (rO (oLst pNil)) (rV (pCa oInt (pCons (pVar 1) pNil))))
  (sSeq (sFor (imSeq (mVar 0)) (tName 4) (sSeq (sSet 5 (rV (pC (.int 0))))
  (sSeq (sFor (imRan1 (pC (.int 400))) (tName 6) (sIf (bVal (pBin oEq (pBin oMod (pVar 3) (pVar 4)) (pC (.int 0)))) (sPar 5 3 (rV (pBin oAdd (pVar 5) (pC (.int 1)))) (rV (pBin oFdv (pVar 3) (pVar 4)))) sNext))
  (sApp 2 (mVar 5)))))
  (sRet (rV (pIf (bVal (pBin oEq (pVar 3) (pC (.int 1)))) (pVar 2) (pC .none))))))
-- ['pot', 'parts', 'found', 'lap', 'top', 'low', 'turn']
def p_law_lot : ST := (sSeq (sSet 1 (rO (oLst (pCons (pC (.int 2)) (pCons (pC (.int 3)) (pCons (pC (.int 6)) (pCons (pC (.int 4)) (pCons (pC (.int 5)) (pCons (pC (.int 10)) (pCons (pC (.int 12)) (pCons (pC (.int 7)) (pCons (pC (.int 9)) (pCons (pC (.int 15)) (pCons (pC (.int 49)) (pCons (pC (.int 8)) pNil)))))))))))))))
  (sSeq (sSet 2 (rO (oLst pNil)))
  (sSeq (sFor (imRan1 (vR (rCallD 0 f_law_take 1 (pCons (pC (.int 8)) pNil)))) (tName 3) (sSeq (sAsg (tTup (tCons' (tName 4) (tCons' (tName 5) tNil'))) (mR (rV (pTup (pCons (pC (.int 1)) (pCons (pC (.int 1)) pNil))))))
  (sSeq (sFor (imRan1 (vR (rCallD 0 f_law_take 1 (pCons (pC (.int 4)) pNil)))) (tName 6) (sSet 4 (rV (pBin oMul (pVar 4) (vR (rCallD 0 f_law_of 1 (pCons (pVar 1) pNil)))))))
  (sSeq (sFor (imRan1 (vR (rCallD 0 f_law_take 1 (pCons (pC (.int 3)) pNil)))) (tName 6) (sSet 5 (rV (pBin oMul (pVar 5) (vR (rCallD 0 f_law_of 1 (pCons (pVar 1) pNil)))))))
  (sApp 2 (mR (rCall f_law_reduced 2 (pCons (pVar 4) (pCons (pVar 5) pNil)))))))))
  (sRetV 2))))
-- ['pot', 'one', 'text', 'odd', 'value']
def p_law_are_strings_right : ST := (sSeq (sSet 1 (rCall f_law_reduced 2 (pCons (pBin oSub (pCa oInt (pCons (vR (rCallD 0 f_law_take 1 (pCons (pC (.int 2000)) pNil))) pNil)) (pC (.int 1000))) (pCons (pCa oInt (pCons (pBin oAdd (pC (.int 1)) (vR (rCallD 0 f_law_take 1 (pCons (pC (.int 50)) pNil)))) pNil)) pNil))))
  (sSeq (sSet 1 (rCallD 0 f_law_of 1 (pCons (vR (rO (oLst (pCons (pVar 1) (pCons (pTup (pCons (pBin oMul (pBin oIx (pVar 1) (pC (.int 0))) (pBin oPow (pC (.int 10)) (pC (.int 40)))) (pCons (pC (.int 1)) pNil))) (pCons (pTup (pCons (pBin oAdd (pBin oMul (pC (.int 7)) (pBin oPow (pC (.int 10)) (pC (.int 40)))) (pC (.int 1))) (pCons (pBin oMul (pBin oMul (pBin oIx (pVar 1) (pC (.int 1))) (pC (.int 7))) (pBin oPow (pC (.int 10)) (pC (.int 40)))) pNil))) pNil)))))) pNil)))
  (sSeq (sSet 1 (rCall f_law_reduced 2 (pCons (pBin oIx (pVar 1) (pC (.int 0))) (pCons (pBin oIx (pVar 1) (pC (.int 1))) pNil))))
  (sSeq (sSet 2 (rV (pBin oAdd (pCa oStr (pCons (pBin oIx (pVar 1) (pC (.int 0))) pNil)) (pIf (bVal (pBin oGt (pBin oIx (pVar 1) (pC (.int 1))) (pC (.int 1)))) (pBin oAdd (pC (.str (("/" : PySem.Str)))) (pCa oStr (pCons (pBin oIx (pVar 1) (pC (.int 1))) pNil))) (pC (.str (("" : PySem.Str))))))))
  (sSeq (sIf (bOr (bVal (pBin oNeS (vR (rCall f_fraction_text 1 (pCons (pVar 1) pNil))) (pVar 2))) (bVal (pBin oNe (vR (rCall f_read_fraction 1 (pCons (pVar 2) pNil))) (pVar 1)))) (sRet (rV (pC (.bool false)))) sNext)
  (sSeq (sSet 3 (rO (oLst (pCons (pC (.str (("" : PySem.Str)))) (pCons (pC (.str (("/" : PySem.Str)))) (pCons (pC (.str (("1/" : PySem.Str)))) (pCons (pC (.str (("/2" : PySem.Str)))) (pCons (pC (.str (("1/0" : PySem.Str)))) (pCons (pC (.str (("2/4" : PySem.Str)))) (pCons (pC (.str (("1/1" : PySem.Str)))) (pCons (pC (.str (("-0" : PySem.Str)))) (pCons (pC (.str (("01" : PySem.Str)))) (pCons (pC (.str (("1/02" : PySem.Str)))) (pCons (pC (.str (("+1" : PySem.Str)))) (pCons (pC (.str ((" 1" : PySem.Str)))) (pCons (pC (.str (("1 " : PySem.Str)))) (pCons (pC (.str (("1/-2" : PySem.Str)))) (pCons (pC (.str (("-1/-2" : PySem.Str)))) (pCons (pC (.str (("x" : PySem.Str)))) pNil)))))))))))))))))))
  (sSeq (sSet 3 (rO (oCat (pVar 3) (vR (rO (oLst (pCons (pC (.str (("--1" : PySem.Str)))) (pCons (pC (.str (("1.0" : PySem.Str)))) (pCons (pC (.str (("1e2" : PySem.Str)))) (pCons (pC (.str (("1/2/3" : PySem.Str)))) (pCons (pBin oRepS (pC (.str (("1" : PySem.Str)))) (pC (.int 301))) (pCons (pBin oAdd (pC (.str (("1/" : PySem.Str)))) (pBin oRepS (pC (.str (("3" : PySem.Str)))) (pC (.int 301)))) (pCons (pC (.str (("0/2" : PySem.Str)))) pNil)))))))))))))
  (sSeq (sSet 4 (rCallD 0 f_law_of 1 (pCons (vR (rO (oCat (pVar 3) (vR (rO (oLst (pCons (pC .none) (pCons (pC (.int 5)) (pCons (pTup (pCons (pC (.int 1)) (pCons (pC (.int 2)) pNil))) (pCons (pC (.bool true)) pNil)))))))))) pNil)))
  (sRet (rV (pAnd (pBin oIs (vR (rCall f_read_fraction 1 (pCons (pVar 4) pNil))) (pC .none)) (pBin oEq (vR (rCall f_read_fraction 1 (pCons (pBin oRepS (pC (.str (("1" : PySem.Str)))) (pC (.int 300))) pNil))) (pTup (pCons (pCa oInt (pCons (pBin oRepS (pC (.str (("1" : PySem.Str)))) (pC (.int 300))) pNil)) (pCons (pC (.int 1)) pNil)))))))))))))))
-- ['pot', 'some', 'parts', 'told', 'due', 'at', 'one', 'number', 'top', 'low', 'rest', 'part', 'other', 'more', 'less']
def p_law_right : ST := (sSeq (sSet 1 (rCallD 0 f_law_lot 0 pNil))
  (sSeq (sSet 2 (rV (pCa oSumL (pCons (vR (rO (oLc (iSeq (pVar 1)) (tName 6) bYes (vR (rO (oCa oList (pCons (pVar 6) pNil)))) [6]))) (pCons (vR (rO (oLst pNil))) pNil)))))
  (sSeq (sAsg (tTup (tCons' (tName 3) (tCons' (tName 4) tNil'))) (mR (rV (pTup (pCons (vR (rCall f_coprime_base 1 (pCons (pCa oTuple (pCons (pVar 1) pNil)) pNil))) (pCons (vR (rCall f_law_base 1 (pCons (pVar 2) pNil))) pNil))))))
  (sSeq (sIf (bOr (bVal (pBin oNeS (pCa oRepr (pCons (pVar 3) pNil)) (pCa oRepr (pCons (pVar 4) pNil)))) (bVal (pBin oNe (vR (rCall f_coprime_base 1 (pCons (pCa oTuple (pCons (vR (rCallD 0 f_law_some 2 (pCons (pVar 1) (pCons (pCa oLen (pCons (pVar 1) pNil)) pNil)))) pNil)) pNil))) (pVar 3)))) (sRet (rV (pC (.bool false)))) sNext)
  (sSeq (sFor (imOf (iEnu (pVar 3))) (tTup (tCons' (tName 5) (tCons' (tName 6) tNil'))) (sIf (bVal (pCa oAny (pCons (vR (rO (oLc (iSeq (pSl (pVar 3) (nAt (pBin oAdd (pVar 5) (pC (.int 1)))) nNo)) (tName 12) bYes (pBin oGt (vR (rCall f_law_common 2 (pCons (pVar 6) (pCons (pVar 12) pNil)))) (pC (.int 1))) [12]))) pNil))) (sRet (rV (pC (.bool false)))) sNext))
  (sSeq (sIf (bVal (pCa oAny (pCons (vR (rO (oLc (iSeq (pVar 2)) (tName 11) bYes (pBin oIs (vR (rCall f_law_exponents 2 (pCons (pVar 3) (pCons (pVar 11) pNil)))) (pC .none)) [11]))) pNil))) (sRet (rV (pC (.bool false)))) sNext)
  (sSeq (sSet 7 (rCallD 0 f_law_of 1 (pCons (vR (rO (oCat (pVar 1) (vR (rO (oLst (pCons (pTup (pCons (pC (.int 1)) (pCons (pC (.int 1)) pNil))) (pCons (pTup (pCons (pC (.int 11)) (pCons (pC (.int 1)) pNil))) (pCons (pTup (pCons (pC (.int 1)) (pCons (pC (.int 22)) pNil))) pNil))))))))) pNil)))
  (sSeq (sPar 8 9 (rCall f_law_exponents 2 (pCons (pVar 3) (pCons (pBin oIx (pVar 7) (pC (.int 0))) pNil))) (rCall f_law_exponents 2 (pCons (pVar 3) (pCons (pBin oIx (pVar 7) (pC (.int 1))) pNil))))
  (sSeq (sSet 4 (rV (pIf (bVal (pBin oIn (pC .none) (pTup (pCons (pVar 8) (pCons (pVar 9) pNil))))) (pC .none) (pCa oTuple (pCons (vR (rO (oLc (iZip2 (pVar 8) (pVar 9)) (tTup (tCons' (tName 13) (tCons' (tName 14) tNil'))) bYes (pCa oInt (pCons (pBin oSub (pVar 13) (pVar 14)) pNil)) [13, 14]))) pNil)))))
  (sSeq (sIf (bVal (pBin oNeS (pCa oRepr (pCons (vR (rCall f_exponents_over 2 (pCons (pVar 3) (pCons (pVar 7) pNil)))) pNil)) (pCa oRepr (pCons (pVar 4) pNil)))) (sRet (rV (pC (.bool false)))) sNext)
  (sSeq (sFor (imRan1 (pCa oLen (pCons (pVar 3) pNil))) (tName 5) (sSeq (sSet 10 (rV (pBin oAdd (pSl (pVar 3) nNo (nAt (pVar 5))) (pSl (pVar 3) (nAt (pBin oAdd (pVar 5) (pC (.int 1)))) nNo))))
  (sIf (bNot (bVal (pCa oAny (pCons (vR (rO (oLc (iSeq (pVar 1)) (tName 6) bYes (pBin oIs (vR (rCall f_exponents_over 2 (pCons (pVar 10) (pCons (pVar 6) pNil)))) (pC .none)) [6]))) pNil)))) (sRet (rV (pC (.bool false)))) sNext)))
  (sRet (rV (pC (.bool true)))))))))))))))
-- ['script', 'place', 'pot', 'lap']
def p_law (a : Addr) (ns : List Int) : ST := (sSeq (sFor (imSeq (mR (rCallS 0 a ns f_law_cells 1 (pCons (pC (.int 3)) pNil)))) (tName 1) (sMk 2 (rCallS 0 a ns f_law_pot 1 (pCons (pVar 1) pNil)) (sIf (bOr (bNot (bVal (pCa oAll (pCons (vR (rO (oLc (iRan1 (pC (.int 6))) (tName 3) bYes (vR (rCallD 2 f_law_right 0 pNil)) [3]))) pNil)))) (bNot (bVal (vR (rCallD 2 f_law_are_strings_right 0 pNil))))) (sRet (rV (pC (.bool false)))) sNext)))
  (sRet (rV (pC (.bool true)))))
end K20

set_option Elab.async false
set_option linter.all false
set_option maxRecDepth 100000
set_option maxHeartbeats 4000000
/-! ## k20: coprime bases, in plain numbers -/
namespace K20
theorem Gn.pos {B : List Nat} (h2 : ∀ b ∈ B, 2 ≤ b) {n : Nat} (h : Gn B n) : 1 ≤ n := by
  induction h with
  | one => exact Nat.le_refl _
  | mul hb _ ih => exact Nat.mul_pos (Nat.lt_of_lt_of_le (by decide) (h2 _ hb)) ih
theorem Gn.of_mem {B : List Nat} {b : Nat} (h : b ∈ B) : Gn B b := by
  have := Gn.mul h Gn.one
  rwa [Nat.mul_one] at this
theorem Gn.prod {B : List Nat} {a c : Nat} (h : Gn B a) (k : Gn B c) : Gn B (a * c) := by
  induction h with
  | one => rwa [Nat.one_mul]
  | mul hb _ ih => rw [Nat.mul_assoc]; exact .mul hb ih
theorem Gn.mono {B B' : List Nat} (h : ∀ b ∈ B, Gn B' b) {n : Nat} (k : Gn B n) : Gn B' n := by
  induction k with
  | one => exact .one
  | mul hb _ ih => exact (h _ hb).prod ih
theorem pair_cop {B : List Nat} (h : B.Pairwise fun a c => Nat.gcd a c = 1) {a c : Nat} (ha : a ∈ B) (hc : c ∈ B) (ne : a ≠ c) : Nat.gcd a c = 1 := by
  induction h with
  | nil => cases ha
  | @cons x l hx hl ih =>
    rcases List.mem_cons.mp ha with e1 | h1
    · rcases List.mem_cons.mp hc with e2 | h2
      · exact absurd (e1.trans e2.symm) ne
      · rw [e1]; exact hx _ h2
    · rcases List.mem_cons.mp hc with e2 | h2
      · rw [e2, Nat.gcd_comm]; exact hx _ h1
      · exact ih h1 h2
/-- a base number is coprime to what the others make, or goes into it -/
theorem CB.cop_or {B : List Nat} (hB : CB B) {p n : Nat} (hp : p ∈ B) (h : Gn B n) : Nat.gcd p n = 1 ∨ ∃ m, n = p * m ∧ Gn B m := by
  induction h with
  | one => exact .inl (Nat.gcd_one_right _)
  | @mul b n hb hn ih =>
    by_cases e : p = b
    · subst e; exact .inr ⟨n, rfl, hn⟩
    · rcases ih with ih | ⟨m, rfl, hm⟩
      · exact .inl (Nat.Coprime.mul_right (pair_cop hB.cop hp hb e) ih)
      · refine .inr ⟨b * m, ?_, .mul hb hm⟩
        rw [← Nat.mul_assoc, ← Nat.mul_assoc, Nat.mul_comm b p]
theorem CB.cancel {B : List Nat} (hB : CB B) {p x : Nat} (hp : p ∈ B) (h : Gn B (p * x)) : Gn B x := by
  have p2 := hB.two p hp
  rcases hB.cop_or hp h with e | ⟨m, e, hm⟩
  · rw [Nat.gcd_mul_right_right] at e; omega
  · have : x = m := Nat.eq_of_mul_eq_mul_left (by omega) e
    rw [this]; exact hm
theorem CB.quot {B : List Nat} (hB : CB B) {a c : Nat} (ha : Gn B a) : Gn B (a * c) → Gn B c := by
  induction ha with
  | one => rw [Nat.one_mul]; exact id
  | mul hb _ ih => rw [Nat.mul_assoc]; exact fun h => ih (hB.cancel hb h)
theorem CB.gcd {B : List Nat} (hB : CB B) {a c : Nat} (ha : Gn B a) (hc : Gn B c) : Gn B (Nat.gcd a c) := by
  induction ha generalizing c with
  | one => rw [Nat.gcd_one_left]; exact .one
  | @mul p a hp _ ih =>
    rcases hB.cop_or hp hc with e | ⟨m, rfl, hm⟩
    · have : Nat.gcd (p * a) c = Nat.gcd a c := Nat.Coprime.gcd_mul_left_cancel a e
      rw [this]
      exact ih hc
    · rw [Nat.gcd_mul_left]
      exact .mul hp (ih hm)
theorem CB.dvd {B : List Nat} (hB : CB B) {a c : Nat} (ha : Gn B a) (hc : Gn B c) (h : c ∣ a) : Gn B (a / c) := by
  obtain ⟨k, rfl⟩ := h
  have := hc.pos hB.two
  rw [Nat.mul_div_cancel_left k (by omega)]
  exact hB.quot hc ha
/-- two coprime bases that make each other are one -/
theorem CB.sub {B B' : List Nat} (hB : CB B) (hB' : CB B') (h : ∀ b ∈ B, Gn B' b) (h' : ∀ b ∈ B', Gn B b) : ∀ b ∈ B, b ∈ B' := by
  intro b hb
  have b2 := hB.two b hb
  have key : ∃ p ∈ B', ∃ m, b = p * m := by
    have g := h b hb
    generalize e : b = c at g
    cases g with
    | one => omega
    | @mul p n hp hn => exact ⟨p, hp, n, rfl⟩
  obtain ⟨p, hp, m, e⟩ := key
  have p2 := hB'.two p hp
  -- b goes into p: else it is coprime to p
  rcases hB.cop_or hb (h' p hp) with z | ⟨k, ek, _⟩
  · rw [e, Nat.gcd_mul_right_left] at z
    omega
  · -- p = b * k, b = p * m
    have m1 : m = 1 := by
      have e2 : b * 1 = b * (k * m) := by rw [Nat.mul_one, ← Nat.mul_assoc, ← ek]; exact e
      have e3 : 1 = k * m := Nat.eq_of_mul_eq_mul_left (by omega) e2
      exact Nat.eq_one_of_mul_eq_one_left e3.symm
    rw [m1, Nat.mul_one] at e
    rw [e]; exact hp
theorem sorted_eq : ∀ {l m : List Nat}, l.Pairwise (· < ·) → m.Pairwise (· < ·) → (∀ x, x ∈ l ↔ x ∈ m) → l = m
  | [], [], _, _, _ => rfl
  | [], y :: m, _, _, h => absurd ((h y).mpr List.mem_cons_self) List.not_mem_nil
  | x :: l, [], _, _, h => absurd ((h x).mp List.mem_cons_self) List.not_mem_nil
  | x :: l, y :: m, hl, hm, h => by
    have hl' := List.pairwise_cons.mp hl
    have hm' := List.pairwise_cons.mp hm
    have e : x = y := by
      have h1 := (h x).mp List.mem_cons_self
      have h2 := (h y).mpr List.mem_cons_self
      rcases List.mem_cons.mp h1 with e | h1
      · exact e
      · rcases List.mem_cons.mp h2 with e | h2
        · exact e.symm
        · have a1 := hm'.1 x h1
          have a2 := hl'.1 y h2
          omega
    subst e
    have : l = m := sorted_eq hl'.2 hm'.2 fun z => by
      constructor
      · intro hz
        rcases List.mem_cons.mp ((h z).mp (List.mem_cons_of_mem _ hz)) with e | e
        · have := hl'.1 z hz; omega
        · exact e
      · intro hz
        rcases List.mem_cons.mp ((h z).mpr (List.mem_cons_of_mem _ hz)) with e | e
        · have := hm'.1 z hz; omega
        · exact e
    rw [this]
theorem IsB.uniq {ns ms B B' : List Nat} (h : IsB ns B) (h' : IsB ms B') (e : ∀ n, n ∈ ns ↔ n ∈ ms) : B = B' := by
  have g : ∀ b ∈ B, Gn B' b := h.least B' h'.cb fun n hn => h'.gen n ((e n).mp hn)
  have g' : ∀ b ∈ B', Gn B b := h'.least B h.cb fun n hn => h.gen n ((e n).mpr hn)
  exact sorted_eq h.srt h'.srt fun x => ⟨CB.sub h.cb h'.cb g g' x, CB.sub h'.cb h.cb g' g x⟩
theorem IsB.self {B : List Nat} (h : CB B) (hs : B.Pairwise (· < ·)) : IsB B B := ⟨h, hs, fun _ hn => .of_mem hn, fun _ _ k m hm => k m hm⟩
theorem CB.sublist {B B' : List Nat} (h : CB B) (s : B'.Sublist B) : CB B' := ⟨fun b hb => h.two b (s.subset hb), h.cop.sublist s⟩
/-- no base number is made of the others -/
theorem CB.need {B B' : List Nat} {m : Nat} (h : CB B) (hm : 2 ≤ m) (hc : ∀ b ∈ B', Nat.gcd m b = 1) (hB' : CB B') (g : Gn B' m) : False := by
  cases g with
  | one => omega
  | @mul p n hp hn =>
    have := hc p hp
    rw [Nat.gcd_mul_right_left] at this
    have := hB'.two p hp
    omega
/-! ### how often -/
theorem split1_fuel {p : Nat} (hp : 2 ≤ p) : ∀ (k k' n : Nat), 1 ≤ n → n ≤ k → n ≤ k' → split1 p k n = split1 p k' n
  | 0, _, n, h, h1, _ => by omega
  | _ + 1, 0, n, h, _, h2 => by omega
  | k + 1, k' + 1, n, h, h1, h2 => by
    unfold split1
    by_cases e : n % p = 0
    · rw [if_pos e, if_pos e]
      have lt : n / p < n := Nat.div_lt_self (by omega) (by omega)
      have ge : 1 ≤ n / p := by
        have hd : p ∣ n := Nat.dvd_of_mod_eq_zero e
        exact Nat.div_pos (Nat.le_of_dvd (by omega) hd) (by omega)
      rw [split1_fuel hp k k' (n / p) ge (by omega) (by omega)]
    · rw [if_neg e, if_neg e]
theorem split1_step {p n : Nat} (hp : 2 ≤ p) (hn : 1 ≤ n) (e : n % p = 0) : split1 p n n = ((split1 p (n / p) (n / p)).1 + 1, (split1 p (n / p) (n / p)).2) ∧ 1 ≤ n / p ∧ n / p < n := by
  have lt : n / p < n := Nat.div_lt_self (by omega) (by omega)
  have ge : 1 ≤ n / p := by
    have hd : p ∣ n := Nat.dvd_of_mod_eq_zero e
    exact Nat.div_pos (Nat.le_of_dvd (by omega) hd) (by omega)
  refine ⟨?_, ge, lt⟩
  obtain ⟨k, rfl⟩ : ∃ k, n = k + 1 := ⟨n - 1, by omega⟩
  rw [show split1 p (k + 1) (k + 1) = ((split1 p k ((k + 1) / p)).1 + 1, (split1 p k ((k + 1) / p)).2) by rw [split1, if_pos e]]
  rw [split1_fuel hp k ((k + 1) / p) ((k + 1) / p) ge (by omega) (Nat.le_refl _)]
theorem split1_stop {p n : Nat} (hn : 1 ≤ n) (e : ¬ n % p = 0) : split1 p n n = (0, n) := by
  obtain ⟨k, rfl⟩ : ∃ k, n = k + 1 := ⟨n - 1, by omega⟩
  rw [split1, if_neg e]
theorem split1_is {p : Nat} (hp : 2 ≤ p) : ∀ (N n : Nat), n ≤ N → 1 ≤ n → n = p ^ (split1 p n n).1 * (split1 p n n).2 ∧ 1 ≤ (split1 p n n).2 ∧ (split1 p n n).2 ≤ n ∧ ¬ (split1 p n n).2 % p = 0 ∧ (split1 p n n).1 < n
  | 0, n, h, h1 => by omega
  | N + 1, n, h, h1 => by
    by_cases e : n % p = 0
    · obtain ⟨s, g1, g2⟩ := split1_step hp h1 e
      obtain ⟨i1, i2, i3, i4, i5⟩ := split1_is hp N (n / p) (by omega) g1
      rw [s]
      refine ⟨?_, i2, by omega, i4, by show _ + 1 < n; omega⟩
      show n = p ^ ((split1 p (n / p) (n / p)).1 + 1) * (split1 p (n / p) (n / p)).2
      rw [Nat.pow_succ, Nat.mul_comm (p ^ _) p, Nat.mul_assoc, ← i1]
      exact (Nat.mul_div_cancel' (Nat.dvd_of_mod_eq_zero e)).symm
    · rw [split1_stop h1 e]
      exact ⟨by rw [Nat.pow_zero, Nat.one_mul], h1, Nat.le_refl _, e, h1⟩
theorem split1_log {p : Nat} (hp : 2 ≤ p) : ∀ (N n : Nat), n ≤ N → 1 ≤ n → 2 ^ (split1 p n n).1 ≤ n
  | 0, n, h, h1 => by omega
  | N + 1, n, h, h1 => by
    by_cases e : n % p = 0
    · obtain ⟨s, g1, g2⟩ := split1_step hp h1 e
      have i := split1_log hp N (n / p) (by omega) g1
      rw [s]
      show 2 ^ ((split1 p (n / p) (n / p)).1 + 1) ≤ n
      have : n = n / p * p := (Nat.div_mul_cancel (Nat.dvd_of_mod_eq_zero e)).symm
      rw [Nat.pow_succ]
      have : n / p * 2 ≤ n / p * p := Nat.mul_le_mul_left _ hp
      omega
    · rw [split1_stop h1 e]
      exact h1
theorem Gn.pow {B : List Nat} {p : Nat} (h : p ∈ B) : ∀ k, Gn B (p ^ k)
  | 0 => by rw [Nat.pow_zero]; exact .one
  | k + 1 => by rw [Nat.pow_succ, Nat.mul_comm]; exact .mul h (Gn.pow h k)
theorem Gn.cons {B : List Nat} {p n : Nat} (h : Gn B n) : Gn (p :: B) n := h.mono fun _ hb => .of_mem (List.mem_cons_of_mem _ hb)
/-- without p, what a base with p makes is made of the others -/
theorem CB.drop1 {B : List Nat} {p n : Nat} (hB : CB (p :: B)) (g : Gn (p :: B) n) (hn : ¬ n % p = 0) : Gn B n := by
  induction g with
  | one => exact .one
  | @mul b n hb hg ih =>
    rcases List.mem_cons.mp hb with rfl | hb
    · exact absurd (Nat.mul_mod_right _ _) hn
    · refine .mul hb (ih fun e => hn ?_)
      have : p ∣ n := Nat.dvd_of_mod_eq_zero e
      exact Nat.mod_eq_zero_of_dvd (Nat.dvd_trans this (Nat.dvd_mul_left n b))
theorem splitAll_iff : ∀ {B : List Nat} {n : Nat}, CB B → 1 ≤ n → ((splitAll B n).2 = 1 ↔ Gn B n)
  | [], n, _, hn => by
    constructor
    · intro h
      have e : n = 1 := h
      rw [e]; exact .one
    · intro h
      cases h with
      | one => rfl
      | mul hb _ => cases hb
  | p :: B, n, hB, hn => by
    have hp := hB.two p List.mem_cons_self
    obtain ⟨e, r1, r2, r3, _⟩ := split1_is hp n n (Nat.le_refl _) hn
    have hB' : CB B := ⟨fun b hb => hB.two b (List.mem_cons_of_mem _ hb), (List.pairwise_cons.mp hB.cop).2⟩
    have ih := splitAll_iff (B := B) (n := (split1 p n n).2) hB' r1
    show (splitAll B (split1 p n n).2).2 = 1 ↔ _
    rw [ih]
    constructor
    · intro g
      rw [e]
      exact (Gn.pow List.mem_cons_self _).prod g.cons
    · intro g
      rw [e] at g
      exact hB.drop1 (hB.quot (Gn.pow List.mem_cons_self _) g) r3
theorem splitAll_len : ∀ (B : List Nat) (n : Nat), (splitAll B n).1.length = B.length
  | [], _ => rfl
  | p :: B, n => congrArg (· + 1) (splitAll_len B _)
/-! ### a base under way: what is found and what waits -/
/-- found is a coprime base so far, all of it and of what waits is made by every base of the numbers, and makes those that were seen -/
structure Way (ns seen found wait : List Nat) : Prop where
  cb : CB found
  w1 : ∀ w ∈ wait, 1 ≤ w
  gen : ∀ n ∈ seen, Gn (found ++ wait) n
  least : ∀ B', CB B' → (∀ n ∈ ns, Gn B' n) → ∀ m ∈ found ++ wait, Gn B' m
theorem Way.to {ns seen found wait found' wait' : List Nat} (h : Way ns seen found wait) (cb : CB found') (w1 : ∀ w ∈ wait', 1 ≤ w) (g : ∀ m ∈ found ++ wait, Gn (found' ++ wait') m)
    (l : ∀ B', CB B' → (∀ x ∈ found ++ wait, Gn B' x) → ∀ m ∈ found' ++ wait', Gn B' m) : Way ns seen found' wait' :=
  ⟨cb, w1, fun n hn => (h.gen n hn).mono g, fun B' k kn => l B' k (h.least B' k kn)⟩
theorem way_start (ns : List Nat) : Way ns [] [] [] := ⟨⟨fun _ h => absurd h List.not_mem_nil, List.Pairwise.nil⟩, fun _ h => absurd h List.not_mem_nil, fun _ h => absurd h List.not_mem_nil, fun _ _ _ _ h => absurd h List.not_mem_nil⟩
theorem way_all (ns : List Nat) (h1 : ∀ n ∈ ns, 1 ≤ n) : Way ns ns [] ns := ⟨⟨fun _ h => absurd h List.not_mem_nil, List.Pairwise.nil⟩, h1, fun _ h => .of_mem h, fun _ _ k m h => k m h⟩
theorem Way.more {ns seen found : List Nat} {n : Nat} (h : Way ns seen found []) (hn : n ∈ ns) (h1 : 1 ≤ n) : Way ns (n :: seen) found [n] := by
  refine ⟨h.cb, fun w hw => by rw [List.mem_singleton.mp hw]; exact h1, fun m hm => ?_, fun B' k kn m hm => ?_⟩
  · rcases List.mem_cons.mp hm with e | hm
    · rw [e]; exact .of_mem (List.mem_append_right _ (List.mem_singleton.mpr rfl))
    · exact (h.gen m hm).mono fun b hb => .of_mem (List.mem_append_left _ (by simpa using hb))
  · rcases List.mem_append.mp hm with e | e
    · exact h.least B' k kn m (List.mem_append_left _ e)
    · rw [List.mem_singleton.mp e]; exact kn n hn
/-- the same up to the order of what waits -/
theorem Way.perm {ns seen found wait wait' : List Nat} (h : Way ns seen found wait) (p : ∀ x, x ∈ wait' ↔ x ∈ wait) : Way ns seen found wait' := by
  refine h.to h.cb (fun w hw => h.w1 w ((p w).mp hw)) (fun m hm => .of_mem ?_) (fun B' k kx m hm => kx m ?_)
  · rcases List.mem_append.mp hm with e | e
    · exact List.mem_append_left _ e
    · exact List.mem_append_right _ ((p m).mpr e)
  · rcases List.mem_append.mp hm with e | e
    · exact List.mem_append_left _ e
    · exact List.mem_append_right _ ((p m).mp e)
theorem Way.drop1 {ns seen found wait : List Nat} (h : Way ns seen found (1 :: wait)) : Way ns seen found wait := by
  refine h.to h.cb (fun w hw => h.w1 w (List.mem_cons_of_mem _ hw)) (fun m hm => ?_) (fun B' k kx m hm => kx m ?_)
  · rcases List.mem_append.mp hm with e | e
    · exact .of_mem (List.mem_append_left _ e)
    · rcases List.mem_cons.mp e with e | e
      · rw [e]; exact .one
      · exact .of_mem (List.mem_append_right _ e)
  · rcases List.mem_append.mp hm with e | e
    · exact List.mem_append_left _ e
    · exact List.mem_append_right _ (List.mem_cons_of_mem _ e)
theorem CB.snoc {B : List Nat} {p : Nat} (h : CB B) (hp : 2 ≤ p) (hc : ∀ b ∈ B, Nat.gcd p b = 1) : CB (B ++ [p]) := by
  refine ⟨fun b hb => ?_, List.pairwise_append.mpr ⟨h.cop, List.pairwise_singleton _ _, fun a ha c hc' => ?_⟩⟩
  · rcases List.mem_append.mp hb with e | e
    · exact h.two b e
    · rw [List.mem_singleton.mp e]; exact hp
  · rw [List.mem_singleton.mp hc', Nat.gcd_comm]; exact hc a ha
theorem Way.add {ns seen found wait : List Nat} {p : Nat} (h : Way ns seen found (p :: wait)) (hp : 2 ≤ p) (hc : ∀ b ∈ found, Nat.gcd p b = 1) : Way ns seen (found ++ [p]) wait := by
  have same : ∀ m, m ∈ (found ++ [p]) ++ wait ↔ m ∈ found ++ (p :: wait) := fun m => by simp
  exact h.to (h.cb.snoc hp hc) (fun w hw => h.w1 w (List.mem_cons_of_mem _ hw)) (fun m hm => .of_mem ((same m).mpr hm)) (fun B' k kx m hm => kx m ((same m).mp hm))
/-- one and other, not coprime, are split -/
theorem Way.split {ns seen found found' wait : List Nat} {p q : Nat} (h : Way ns seen found (p :: wait)) (hq : q ∈ found) (hs : found'.Sublist found) (hm : ∀ m ∈ found, m = q ∨ m ∈ found') (hg : 1 < Nat.gcd p q) : Way ns seen found' (p / Nat.gcd p q :: q / Nat.gcd p q :: Nat.gcd p q :: wait) := by
  have p1 := h.w1 p List.mem_cons_self
  have q2 := h.cb.two q hq
  have dp := Nat.gcd_dvd_left p q
  have dq := Nat.gcd_dvd_right p q
  have ep := Nat.div_mul_cancel dp
  have eq := Nat.div_mul_cancel dq
  refine h.to (h.cb.sublist hs) (fun w hw => ?_) (fun m hm' => ?_) (fun B' k kx m hm' => ?_)
  · rcases List.mem_cons.mp hw with e | hw
    · rw [e]; exact Nat.div_pos (Nat.le_of_dvd p1 dp) (by omega)
    · rcases List.mem_cons.mp hw with e | hw
      · rw [e]; exact Nat.div_pos (Nat.le_of_dvd (by omega) dq) (by omega)
      · rcases List.mem_cons.mp hw with e | hw
        · rw [e]; omega
        · exact h.w1 w (List.mem_cons_of_mem _ hw)
  · have m1 : p / Nat.gcd p q ∈ found' ++ (p / Nat.gcd p q :: q / Nat.gcd p q :: Nat.gcd p q :: wait) := by simp
    have m2 : q / Nat.gcd p q ∈ found' ++ (p / Nat.gcd p q :: q / Nat.gcd p q :: Nat.gcd p q :: wait) := by simp
    have m3 : Nat.gcd p q ∈ found' ++ (p / Nat.gcd p q :: q / Nat.gcd p q :: Nat.gcd p q :: wait) := by simp
    have gp : Gn (found' ++ (p / Nat.gcd p q :: q / Nat.gcd p q :: Nat.gcd p q :: wait)) p := by
      have := (Gn.of_mem m1).prod (.of_mem m3)
      rwa [ep] at this
    have gq : Gn (found' ++ (p / Nat.gcd p q :: q / Nat.gcd p q :: Nat.gcd p q :: wait)) q := by
      have := (Gn.of_mem m2).prod (.of_mem m3)
      rwa [eq] at this
    rcases List.mem_append.mp hm' with e | e
    · rcases hm m e with e2 | e2
      · rw [e2]; exact gq
      · exact .of_mem (List.mem_append_left _ e2)
    · rcases List.mem_cons.mp e with e2 | e2
      · rw [e2]; exact gp
      · exact .of_mem (List.mem_append_right _ (List.mem_cons_of_mem _ (List.mem_cons_of_mem _ (List.mem_cons_of_mem _ e2))))
  · have kp := kx p (List.mem_append_right _ List.mem_cons_self)
    have kq := kx q (List.mem_append_left _ hq)
    have kg := k.gcd kp kq
    rcases List.mem_append.mp hm' with e | e
    · exact kx m (List.mem_append_left _ (hs.subset e))
    · rcases List.mem_cons.mp e with e | e
      · rw [e]; exact k.dvd kp kg dp
      · rcases List.mem_cons.mp e with e | e
        · rw [e]; exact k.dvd kq kg dq
        · rcases List.mem_cons.mp e with e | e
          · rw [e]; exact kg
          · exact kx m (List.mem_append_right _ (List.mem_cons_of_mem _ e))
/-- nothing waits: the base -/
theorem Way.done {ns found ms : List Nat} (h : Way ns ns found []) (p : ms.Perm found) (s : ms.Pairwise (· ≤ ·)) : IsB ns ms := by
  have cb : CB ms := ⟨fun b hb => h.cb.two b (p.subset hb), (p.pairwise_iff (fun {a c} e => by rw [Nat.gcd_comm]; exact e)).mpr h.cb.cop⟩
  refine ⟨cb, ?_, fun n hn => (h.gen n hn).mono fun b hb => .of_mem (p.symm.subset (by simpa using hb)), fun B' k kn m hm => h.least B' k kn m (by simpa using p.subset hm)⟩
  refine (s.and cb.cop).imp_of_mem ?_
  intro a c ha _ ⟨h1, h2⟩
  have := cb.two a ha
  rcases Nat.lt_or_ge a c with l | l
  · exact l
  · have e : a = c := by omega
    rw [e, Nat.gcd_self] at h2
    omega
/-! ### the walk ends -/
def prodL : List Nat → Nat
  | [] => 1
  | x :: l => x * prodL l
theorem prodL_append : ∀ (l m : List Nat), prodL (l ++ m) = prodL l * prodL m
  | [], m => (Nat.one_mul _).symm
  | x :: l, m => by show x * prodL (l ++ m) = x * prodL l * prodL m; rw [prodL_append l m, Nat.mul_assoc]
theorem prodL_pos : ∀ {l : List Nat}, (∀ x ∈ l, 1 ≤ x) → 1 ≤ prodL l
  | [], _ => Nat.le_refl _
  | x :: l, h => Nat.mul_pos (h x List.mem_cons_self) (prodL_pos fun y hy => h y (List.mem_cons_of_mem _ hy))
theorem prodL_erase : ∀ {l : List Nat} {k x : Nat}, l[k]? = some x → prodL l = x * prodL (l.eraseIdx k)
  | [], k, x, h => by simp at h
  | y :: l, 0, x, h => by
    have e : y = x := by simpa using h
    rw [e]; rfl
  | y :: l, k + 1, x, h => by
    have ih := prodL_erase (l := l) (k := k) (x := x) (by simpa using h)
    show y * prodL l = x * (y * prodL (l.eraseIdx k))
    rw [ih, ← Nat.mul_assoc, ← Nat.mul_assoc, Nat.mul_comm y x]
theorem prodL_filter : ∀ {l : List Nat} {x : Nat}, l.Nodup → x ∈ l → prodL l = x * prodL (l.filter fun y => decide (y ≠ x))
  | [], x, _, h => absurd h List.not_mem_nil
  | y :: l, x, nd, h => by
    have nd' := List.nodup_cons.mp nd
    by_cases e : y = x
    · subst e
      have : (y :: l).filter (fun z => decide (z ≠ y)) = l := by
        rw [List.filter_cons, if_neg (by simp)]
        exact List.filter_eq_self.mpr fun z hz => decide_eq_true fun q => nd'.1 (q ▸ hz)
      rw [this]; rfl
    · have ih := prodL_filter nd'.2 ((List.mem_cons.mp h).resolve_left (Ne.symm e))
      rw [List.filter_cons, if_pos (decide_eq_true e)]
      show y * prodL l = x * (y * prodL _)
      rw [ih, ← Nat.mul_assoc, ← Nat.mul_assoc, Nat.mul_comm y x]
theorem split_half {p q P : Nat} (hg : 1 < Nat.gcd p q) (hP : 1 ≤ P) (hp : 1 ≤ p) (hq : 1 ≤ q) : (p / Nat.gcd p q * (q / Nat.gcd p q * (Nat.gcd p q * P))) * 2 ≤ p * (q * P) ∧ 1 ≤ p / Nat.gcd p q * (q / Nat.gcd p q * (Nat.gcd p q * P)) := by
  obtain ⟨a, ea⟩ := Nat.gcd_dvd_left p q
  obtain ⟨c, ec⟩ := Nat.gcd_dvd_right p q
  generalize Nat.gcd p q = g at *
  have g0 : 0 < g := by omega
  rw [ea, ec, Nat.mul_div_cancel_left a g0, Nat.mul_div_cancel_left c g0]
  have a1 : 1 ≤ a := by
    rcases Nat.eq_zero_or_pos a with z | z
    · rw [z, Nat.mul_zero] at ea; omega
    · exact z
  have c1 : 1 ≤ c := by
    rcases Nat.eq_zero_or_pos c with z | z
    · rw [z, Nat.mul_zero] at ec; omega
    · exact z
  have e : g * a * (g * c * P) = (a * (c * (g * P))) * g := by
    simp only [Nat.mul_comm, Nat.mul_left_comm, Nat.mul_assoc]
  refine ⟨?_, Nat.mul_pos a1 (Nat.mul_pos c1 (Nat.mul_pos g0 hP))⟩
  rw [e]
  exact Nat.mul_le_mul_left _ hg
theorem CB.nodup {B : List Nat} (h : CB B) : B.Nodup := by
  refine h.cop.imp_of_mem ?_
  intro a c ha _ e z
  subst z
  have := h.two a ha
  rw [Nat.gcd_self] at e
  omega
end K20

set_option Elab.async false
set_option linter.all false
set_option maxRecDepth 100000
set_option maxHeartbeats 4000000
namespace K20
open PySem PySem.Spec PyProof.Rows L2 PL
open Classical
theorem lfs_nL : ∀ (ns : List Nat), lfs (nL ns) = true
  | [] => rfl
  | _ :: ns => lfs_nL ns
theorem nL_len (ns : List Nat) : (nL ns).length = ns.length := List.length_map _
theorem nL_app (ns ms : List Nat) : nL (ns ++ ms) = nL ns ++ nL ms := List.map_append
theorem nL_inj {ns ms : List Nat} (h : nL ns = nL ms) : ns = ms := by
  refine List.map_inj_right (f := fun (n : Nat) => PyData.int (n : Int)) ?_ |>.mp h
  intro x y e
  have e' : (x : Int) = (y : Int) := by injection e
  omega
theorem nL_get {ns : List Nat} {i n : Nat} (h : ns[i]? = some n) : (nL ns)[i]? = some (dn n) := by
  unfold nL dn
  rw [List.getElem?_map, h]; rfl
theorem toNat_dn (n : Nat) : ((n : Int)).toNat = n := Int.toNat_natCast n
end K20
namespace K20
open PySem PySem.Spec PyProof.Rows L2 PL
open Classical
theorem e_is_integer {d : D} {Q : Rv → Prop} (h : Q (.val (.bool (isI d)))) : f_is_integer [d] Q := h
theorem e_common {a c : Int} {Q : Rv → Prop} (h : Q (.val (.int (Nat.gcd a.natAbs c.natAbs : Nat)))) : f_common [.int a, .int c] Q := h
theorem e_is_fraction {a c : Int} {Q : Rv → Prop} (h : Q (.val (.bool (isFr (.tuple [.int a, .int c]))))) : f_is_fraction [.tuple [.int a, .int c]] Q := h
theorem e_law_common {a c : Int} {Q : Rv → Prop} (h0 : 0 ≤ a) (h1 : 0 ≤ c) (h2 : a < 2 ^ 60) (h3 : c < 2 ^ 60) (h : Q (.val (.int (Nat.gcd a.natAbs c.natAbs : Nat)))) : f_law_common [.int a, .int c] Q := ⟨h0, h1, h2, h3, h⟩
end K20
namespace K20
open PySem PySem.Spec PyProof.Rows L2 PL
open Classical
theorem lf_expoD (B : List Nat) (n : Nat) : lf (expoD B n) = true := by
  unfold expoD
  split
  · exact lfs_nL _
  · rfl
theorem isI_dn (n : Nat) : isI (.int (n : Int)) = true := rfl
end K20
namespace K20
open PySem PySem.Spec PyProof.Rows L2 PL
open Classical
theorem lfs_frD : ∀ ps : List (Nat × Nat), lfs (ps.map frD) = true
  | [] => rfl
  | _ :: ps => by
    show (true && lfs (ps.map frD)) = true
    rw [lfs_frD ps]; rfl
end K20

set_option Elab.async false
set_option linter.all false
set_option maxRecDepth 100000
set_option maxHeartbeats 4000000
/-! ## k20: how large a base is; what is shown -/
namespace K20
open PySem PySem.Spec PyProof.Rows L2 PL
open Classical
theorem Gn.without {B : List Nat} {p n : Nat} (g : Gn B n) (hn : ¬ p ∣ n) : Gn (B.filter fun x => decide (x ≠ p)) n := by
  induction g with
  | one => exact .one
  | @mul b n hb hg ih =>
    refine .mul (List.mem_filter.mpr ⟨hb, decide_eq_true fun e => hn ?_⟩) (ih fun d => hn (Nat.dvd_trans d (Nat.dvd_mul_left n b)))
    rw [← e]; exact Nat.dvd_mul_right _ _
theorem IsB.dvd {ns B : List Nat} (h : IsB ns B) {m : Nat} (hm : m ∈ B) : ∃ n ∈ ns, m ∣ n := by
  refine Classical.byContradiction fun q => ?_
  have no : ∀ n ∈ ns, ¬ m ∣ n := fun n hn hd => q ⟨n, hn, hd⟩
  have cb : CB (B.filter fun x => decide (x ≠ m)) := h.cb.sublist List.filter_sublist
  have g := h.least _ cb (fun n hn => (h.gen n hn).without (no n hn)) m hm
  refine CB.need h.cb (h.cb.two m hm) (fun b hb => ?_) cb g
  obtain ⟨h1, h2⟩ := List.mem_filter.mp hb
  exact pair_cop h.cb.cop hm h1 (fun e => of_decide_eq_true h2 e.symm)
theorem cop_prod {a : Nat} : ∀ {l : List Nat}, (∀ c ∈ l, Nat.gcd a c = 1) → Nat.gcd a (prodL l) = 1
  | [], _ => Nat.gcd_one_right a
  | c :: l, h => Nat.Coprime.mul_right (h c List.mem_cons_self) (cop_prod fun x hx => h x (List.mem_cons_of_mem _ hx))
theorem prod_dvd {P : Nat} : ∀ {l : List Nat}, l.Pairwise (fun a c => Nat.gcd a c = 1) → (∀ c ∈ l, c ∣ P) → prodL l ∣ P
  | [], _, _ => Nat.one_dvd P
  | c :: l, hp, hd => by
    have hp' := List.pairwise_cons.mp hp
    exact Nat.Coprime.mul_dvd_of_dvd_of_dvd (cop_prod hp'.1) (hd c List.mem_cons_self) (prod_dvd hp'.2 fun x hx => hd x (List.mem_cons_of_mem _ hx))
theorem mem_dvd_prod : ∀ {l : List Nat} {n : Nat}, n ∈ l → n ∣ prodL l
  | x :: l, n, h => by
    rcases List.mem_cons.mp h with e | e
    · rw [e]; exact Nat.dvd_mul_right _ _
    · exact Nat.dvd_trans (mem_dvd_prod e) (Nat.dvd_mul_left _ _)
theorem prodL_le' {k : Nat} : ∀ {l : List Nat}, (∀ x ∈ l, x < 2 ^ k) → prodL l ≤ 2 ^ (k * l.length)
  | [], _ => Nat.le_refl _
  | x :: l, h => by
    have ih := prodL_le' (l := l) fun y hy => h y (List.mem_cons_of_mem _ hy)
    have := h x List.mem_cons_self
    show x * prodL l ≤ 2 ^ (k * (l.length + 1))
    rw [Nat.mul_add, Nat.mul_one, Nat.pow_add, Nat.mul_comm]
    exact Nat.mul_le_mul ih (Nat.le_of_lt this)
theorem len_pow' {l : List Nat} (h : ∀ b ∈ l, 2 ≤ b) : 2 ^ l.length ≤ prodL l := by
  induction l with
  | nil => exact Nat.le_refl _
  | cons x l ih =>
    have := ih fun b hb => h b (List.mem_cons_of_mem _ hb)
    have := h x List.mem_cons_self
    rw [List.length_cons, Nat.pow_succ, Nat.mul_comm]
    exact Nat.mul_le_mul this ‹2 ^ l.length ≤ prodL l›
theorem IsB.small {ns B : List Nat} (h : IsB ns B) (hn : ∀ n ∈ ns, 1 ≤ n ∧ n < 2 ^ 17) (hl : ns.length ≤ 14) : B.length ≤ 238 ∧ ∀ b ∈ B, b < 2 ^ 17 := by
  constructor
  · have d : prodL B ∣ prodL ns := prod_dvd h.cb.cop fun c hc => by
      obtain ⟨n, hn, hd⟩ := h.dvd hc
      exact Nat.dvd_trans hd (mem_dvd_prod hn)
    have p0 : 0 < prodL ns := prodL_pos fun x hx => (hn x hx).1
    have l1 := Nat.le_of_dvd p0 d
    have l2 := prodL_le' (k := 17) fun x hx => (hn x hx).2
    have l3 := len_pow' h.cb.two
    have l4 : 2 ^ B.length ≤ 2 ^ (17 * ns.length) := Nat.le_trans l3 (Nat.le_trans l1 l2)
    have := (Nat.pow_le_pow_iff_right (by decide : 1 < 2)).mp l4
    omega
  · intro b hb
    obtain ⟨n, hnm, hd⟩ := h.dvd hb
    have := (hn n hnm)
    have := Nat.le_of_dvd (by omega) hd
    omega
/-- what is shown of numbers, of a tuple of numbers -/
theorem show_ok {l : List Int} (hz : l.length ≤ 1000) (hb : ∀ i ∈ l, i.natAbs < 2 ^ 20) : (PyData.tuple (l.map PyData.int)).showable = true ∧ (PyData.tuple (l.map PyData.int)).depth ≤ 50 ∧ (PyData.tuple (l.map PyData.int)).shown.length ≤ sizeLine := by
  have ab : ∀ l : List Int, (∀ i ∈ l, i.natAbs < 2 ^ 20) → PyData.showableAll (l.map PyData.int) = true ∧ PyData.canLayAll0 (l.map PyData.int) = true ∧ PyData.depthAll (l.map PyData.int) = 0 ∧ PyData.weightAll (l.map PyData.int) ≤ 22 * l.length ∧ PyData.intsShortAll 13 (l.map PyData.int) = true := by
    intro l
    induction l with
    | nil => intro _; exact ⟨by simp [PyData.showableAll], by simp [PyData.canLayAll0], by simp [PyData.depthAll], by simp [PyData.weightAll], by simp [PyData.intsShortAll]⟩
    | cons i l ih =>
      intro h
      obtain ⟨i1, i2, i3, i4, i5⟩ := ih fun x hx => h x (List.mem_cons_of_mem _ hx)
      have hi := h i List.mem_cons_self
      have lg : i.natAbs.log2 < 20 := by
        by_cases z : i.natAbs = 0
        · rw [z]; decide
        · exact (Nat.log2_lt z).mpr hi
      have sh : (PyData.shown (.int i)).length ≤ 13 := PyData.shown_int_le2 (by omega) (by omega)
      have w : PyData.weight (.int i) ≤ 20 := by
        simp only [PyData.weight]
        split <;> omega
      refine ⟨?_, ?_, ?_, ?_, ?_⟩
      · rw [List.map_cons]; simp only [PyData.showableAll, PyData.showable, i1, Bool.and_true]; exact decide_eq_true (by omega)
      · rw [List.map_cons]; simp only [PyData.canLayAll0, PyData.canLay0, i2, Bool.and_true]
      · rw [List.map_cons]; simp only [PyData.depthAll, PyData.depth, i3]; rfl
      · rw [List.map_cons]; simp only [PyData.weightAll]; rw [List.length_cons]; omega
      · rw [List.map_cons]; simp only [PyData.intsShortAll, PyData.intsShort, i5, Bool.and_true]; exact decide_eq_true sh
  obtain ⟨i1, i2, i3, i4, i5⟩ := ab l hb
  have lay : PyData.layable0 (.tuple (l.map PyData.int)) = true := by
    unfold PyData.layable0
    rw [Bool.and_eq_true, Bool.and_eq_true]
    refine ⟨⟨by simp [PyData.canLay0, i2], decide_eq_true (by simp [PyData.depth, i3])⟩, decide_eq_true ?_⟩
    simp only [PyData.weight]
    omega
  have short : PyData.intsShort 13 (.tuple (l.map PyData.int)) = true := by simp [PyData.intsShort, i5]
  refine ⟨by simp [PyData.showable, i1], by simp [PyData.depth, i3], Nat.le_trans (shown_le13 lay short) (by decide)⟩
end K20
namespace K20
open PySem PySem.Spec PyProof.Rows L2 PL
open Classical
theorem splitAll_small : ∀ {B : List Nat} {n : Nat}, (∀ b ∈ B, 2 ≤ b) → 1 ≤ n → n < 2 ^ 20 → ∀ x ∈ (splitAll B n).1, x < 2 ^ 20
  | [], n, _, _, _, x, h => absurd h List.not_mem_nil
  | p :: B, n, hB, n1, n2, x, h => by
    obtain ⟨_, r1, r2, _, r4⟩ := split1_is (hB p List.mem_cons_self) n n (Nat.le_refl _) n1
    have h' : x ∈ (split1 p n n).1 :: (splitAll B (split1 p n n).2).1 := h
    rcases List.mem_cons.mp h' with e | e
    · omega
    · exact splitAll_small (fun b hb => hB b (List.mem_cons_of_mem _ hb)) r1 (by omega) x e
theorem diffs_is (xs ys : List Nat) : diffs xs ys = ((xs.zip ys).map fun p => ((p.1 : Int) - (p.2 : Int))).map PyData.int := by
  unfold diffs
  rw [List.map_map]
  rfl
theorem lfs_ints : ∀ l : List Int, lfs (l.map PyData.int) = true
  | [] => rfl
  | _ :: l => lfs_ints l
/-- all that is asked of what exponents_over answers -/
theorem over_ok {B : List Nat} {p : Nat × Nat} (hB : ∀ b ∈ B, 2 ≤ b) (hl : B.length ≤ 1000) (hp : Fr p) : lf (overD B p) = true ∧ (overD B p).showable = true ∧ (overD B p).depth ≤ 50 ∧ (overD B p).shown.length ≤ sizeLine := by
  unfold overD
  split
  · rw [diffs_is]
    have := show_ok (l := ((splitAll B p.1).1.zip (splitAll B p.2).1).map fun p => ((p.1 : Int) - (p.2 : Int))) (by rw [List.length_map, List.length_zip, splitAll_len, splitAll_len]; omega) (fun i hi => by
      obtain ⟨q, hq, rfl⟩ := List.mem_map.mp hi
      obtain ⟨h1, h2⟩ := List.of_mem_zip (show (q.1, q.2) ∈ _ from hq)
      have a1 := splitAll_small hB hp.a1 hp.a2 _ h1
      have a2 := splitAll_small hB hp.b1 hp.b2 _ h2
      omega)
    exact ⟨lfs_ints _, this⟩
  · exact ⟨rfl, by simp [PyData.showable], by simp [PyData.depth], by simp only [PyData.shown]; decide⟩
theorem shaped_ll (xs ys : List Nat) : SeqAt.shaped (.tuple [.list (nL xs), .list (nL ys)]) = true ∧ SeqAt.shaped (.tuple [.list (nL xs), .none]) = true ∧ SeqAt.shaped (.tuple [.none, .list (nL ys)]) = true ∧ SeqAt.shaped (.tuple [.none, .none]) = true := by
  have fl : ∀ (l : List Nat) (d : D), d ∈ nL l → flat d = true := fun l d hd => by
    obtain ⟨n, _, rfl⟩ := List.mem_map.mp hd
    rfl
  obtain ⟨a1, a2⟩ := flats_lay (fl xs)
  obtain ⟨c1, c2⟩ := flats_lay (fl ys)
  refine ⟨?_, ?_, ?_, ?_⟩ <;> simp [SeqAt.shaped, PyData.canLay0, PyData.canLayAll0, PyData.depth, PyData.depthAll, a1, a2, c1, c2]
end K20

set_option Elab.async false
set_option linter.all false
set_option maxRecDepth 100000
set_option maxHeartbeats 4000000
/-! ## k20: numbers as texts -/
namespace K20
open PySem PySem.Spec PyProof.Rows L2 PL
open Classical
theorem tl_app (a c : String) : TL.tl (PySem.Str.ofString (a ++ c)) = TL.tl (PySem.Str.ofString a) ++ TL.tl (PySem.Str.ofString c) := by
  show (PySem.Str.ofString (a ++ c)).cps.toList = (PySem.Str.ofString a).cps.toList ++ (PySem.Str.ofString c).cps.toList
  rw [signs_ofString, signs_ofString, signs_ofString, String.toList_append, List.map_append]
theorem tl_nat (n : Nat) : TL.tl (tsI (n : Int)) = TL.numL n := TL.tl_num n
theorem tl_neg (n : Nat) : TL.tl (tsI (Int.negSucc n)) = 45 :: TL.numL (n + 1) := by
  have e : toString (Int.negSucc n) = "-" ++ toString ((n + 1 : Nat) : Int) := rfl
  unfold tsI
  rw [e, tl_app, TL.tl_num]
  rfl
theorem S_minus : TL.tl (S "-") = [45] := by decide +kernel
theorem neg_text {i : Int} (h : i < 0) : S "-" ++ tsI (0 - i) = tsI i := by
  obtain ⟨n, rfl⟩ : ∃ n : Nat, i = Int.negSucc n := ⟨(-i - 1).toNat, by omega⟩
  refine TL.ext_tl ?_
  rw [TL.tl_append, S_minus, tl_neg, show (0 : Int) - Int.negSucc n = ((n + 1 : Nat) : Int) by omega, tl_nat]
  rfl
theorem numL_zero_head : ∀ (N n : Nat), n ≤ N → (TL.numL n)[0]? = some 48 → n = 0
  | 0, n, h, _ => by omega
  | N + 1, n, h, e => by
    by_cases lt : n < 10
    · rw [TL.numL_lt lt] at e
      have e' : 48 + n = 48 := by simpa using e
      omega
    · rw [TL.numL_step (by omega)] at e
      have ne := TL.numL_ne (n / 10)
      have pos : 0 < (TL.numL (n / 10)).length := List.length_pos_iff.mpr ne
      rw [List.getElem?_append_left pos] at e
      have := numL_zero_head N (n / 10) (by omega) e
      omega
theorem fig_iff (c : Nat) : isFig c = true ↔ 48 ≤ c ∧ c ≤ 57 := by
  unfold isFig
  rw [decide_eq_true_eq, show (S "0123456789").cps.toList = [48, 49, 50, 51, 52, 53, 54, 55, 56, 57] by decide +kernel]
  simp only [List.mem_cons, List.not_mem_nil, or_false]
  omega
theorem cut_first (z : PySem.Str) : TL.tl (cutT z none (some 1)) = (TL.tl z).take 1 := by
  show (((TL.tl z).drop 0).take (min 1 z.length - 0)).toArray.toList = _
  rw [TL.len_tl, List.drop_zero, Nat.sub_zero]
  cases TL.tl z with
  | nil => rfl
  | cons c cs => rw [List.length_cons, Nat.min_eq_left (by omega)]
theorem cut_rest (z : PySem.Str) : TL.tl (cutT z (some 1) none) = (TL.tl z).drop 1 := by
  show (((TL.tl z).drop (min 1 z.length)).take (z.length - min 1 z.length)).toArray.toList = _
  rw [TL.len_tl]
  cases TL.tl z with
  | nil => rfl
  | cons c cs =>
    rw [List.length_cons, Nat.min_eq_left (by omega)]
    show cs.take (cs.length + 1 - 1) = cs
    rw [Nat.add_sub_cancel, List.take_length]
theorem minus_iff (z : PySem.Str) : cutT z none (some 1) = S "-" ↔ ∃ cs, TL.tl z = 45 :: cs := by
  constructor
  · intro h
    have := congrArg TL.tl h
    rw [cut_first, S_minus] at this
    cases e : TL.tl z with
    | nil => rw [e] at this; cases this
    | cons c cs => rw [e] at this; exact ⟨cs, by rw [List.take_succ_cons] at this; injection this with h1 _; rw [h1]⟩
  · rintro ⟨cs, e⟩
    refine TL.ext_tl ?_
    rw [cut_first, S_minus, e]
    rfl
theorem tl_figs (z : PySem.Str) : TL.tl (figs z) = match TL.tl z with | 45 :: cs => cs | l => l := by
  unfold figs
  by_cases h : cutT z none (some 1) = S "-"
  · rw [if_pos h, cut_rest]
    obtain ⟨cs, e⟩ := (minus_iff z).mp h
    rw [e]
    rfl
  · rw [if_neg h]
    have : ¬ ∃ cs, TL.tl z = 45 :: cs := fun q => h ((minus_iff z).mpr q)
    split
    · rename_i cs e
      exact absurd ⟨cs, e⟩ this
    · rfl
theorem len_of (z : PySem.Str) : z.length = (TL.tl z).length := TL.len_tl z
/-- what the test says -/
theorem okI_iff (z : PySem.Str) : okI z = true ↔ 1 ≤ (TL.tl (figs z)).length ∧ (TL.tl (figs z)).length ≤ 300 ∧ NumText.AllDigits (TL.tl (figs z)) ∧ ¬ ((TL.tl (figs z))[0]? = some 48 ∧ (1 < (TL.tl (figs z)).length ∨ z ≠ figs z)) := by
  unfold okI
  rw [Bool.and_eq_true, Bool.and_eq_true, Bool.and_eq_true, decide_eq_true_eq, decide_eq_true_eq, List.all_eq_true, len_of]
  rw [Bool.not_eq_true', Bool.and_eq_false_iff, Bool.or_eq_false_iff, decide_eq_false_iff_not, decide_eq_false_iff_not, decide_eq_false_iff_not]
  constructor
  · rintro ⟨⟨⟨h1, h2⟩, h3⟩, h4⟩
    refine ⟨h1, h2, fun c hc => (fig_iff c).mp (h3 c hc), fun ⟨g1, g2⟩ => ?_⟩
    rcases h4 with h4 | ⟨h4, h5⟩
    · exact h4 g1
    · rcases g2 with g2 | g2
      · exact h4 g2
      · exact h5 g2
  · rintro ⟨h1, h2, h3, h4⟩
    refine ⟨⟨⟨h1, h2⟩, fun c hc => (fig_iff c).mpr (h3 c hc)⟩, ?_⟩
    by_cases g1 : (TL.tl (figs z))[0]? = some 48
    · right
      exact ⟨fun g2 => h4 ⟨g1, .inl g2⟩, fun g2 => h4 ⟨g1, .inr g2⟩⟩
    · exact .inl g1
/-- a text that passes is a number's -/
theorem ok_int {z : PySem.Str} (h : okI z = true) : ∃ n, PySem.intText? z = some n := by
  obtain ⟨h1, h2, h3, _⟩ := (okI_iff z).mp h
  have ne : TL.tl (figs z) ≠ [] := fun e => by rw [e] at h1; simp at h1
  by_cases q : ∃ cs, TL.tl z = 45 :: cs
  · obtain ⟨cs, e⟩ := q
    rw [tl_figs, e] at h1 h2 h3 ne
    exact ⟨_, intText_neg (x := z) e h3 ne (by rw [len_of, e, List.length_cons]; have : cs.length ≤ 300 := h2; omega)⟩
  · have e : TL.tl (figs z) = TL.tl z := by
      rw [tl_figs]
      split
      · rename_i cs e
        exact absurd ⟨cs, e⟩ q
      · rfl
    rw [e] at h1 h2 h3 ne
    exact ⟨_, intText_digits (x := z) h3 ne (by rw [len_of]; omega)⟩
theorem rI_nat {n : Nat} (h : n < 10 ^ 300) : rI (tsI (n : Int)) = .int n := by
  have d := TL.numL_digits n
  have ne := TL.numL_ne n
  have len := TL.numL_len (k := 300) (by decide) h
  have ef : TL.tl (figs (tsI (n : Int))) = TL.numL n := by
    rw [tl_figs, tl_nat]
    split
    · rename_i cs e
      have := d 45 (by rw [e]; exact List.mem_cons_self)
      omega
    · rfl
  have e2 : figs (tsI (n : Int)) = tsI (n : Int) := TL.ext_tl (by rw [ef, tl_nat])
  have ok : okI (tsI (n : Int)) = true := by
    refine (okI_iff _).mpr ?_
    rw [ef]
    refine ⟨List.length_pos_iff.mpr ne, len, d, fun ⟨g1, g2⟩ => ?_⟩
    have n0 := numL_zero_head n n (Nat.le_refl _) g1
    rcases g2 with g2 | g2
    · rw [n0, TL.numL_lt (by decide)] at g2
      simp at g2
    · exact g2 e2.symm
  unfold rI
  rw [if_pos ok, show PySem.intText? (tsI (n : Int)) = some (n : Int) from TL.int_num (by omega)]
theorem rI_neg {n : Nat} (h : n + 1 < 10 ^ 300) : rI (tsI (Int.negSucc n)) = .int (Int.negSucc n) := by
  have d := TL.numL_digits (n + 1)
  have ne := TL.numL_ne (n + 1)
  have len := TL.numL_len (k := 300) (by decide) h
  have ef : TL.tl (figs (tsI (Int.negSucc n))) = TL.numL (n + 1) := by
    rw [tl_figs, tl_neg]
    rfl
  have ok : okI (tsI (Int.negSucc n)) = true := by
    refine (okI_iff _).mpr ?_
    rw [ef]
    refine ⟨List.length_pos_iff.mpr ne, len, d, fun ⟨g1, _⟩ => ?_⟩
    have n0 := numL_zero_head (n + 1) (n + 1) (Nat.le_refl _) g1
    omega
  unfold rI
  have e := intText_neg (x := tsI (Int.negSucc n)) (tl_neg n) d ne (by rw [len_of, tl_neg, List.length_cons]; omega)
  rw [TL.numL_val] at e
  rw [if_pos ok, e]
  show PyData.int (-((n + 1 : Nat) : Int)) = _
  congr 1
theorem rI_ts {i : Int} (h : i.natAbs < 10 ^ 300) : rI (tsI i) = .int i := by
  rcases Int.le_total 0 i with h0 | h0
  · obtain ⟨n, rfl⟩ : ∃ n : Nat, i = n := ⟨i.toNat, by omega⟩
    exact rI_nat (by simpa using h)
  · by_cases z : i = 0
    · subst z; exact rI_nat (n := 0) (by simpa using h)
    · obtain ⟨n, rfl⟩ : ∃ n : Nat, i = Int.negSucc n := ⟨(-i - 1).toNat, by omega⟩
      exact rI_neg (by simpa using h)
theorem free47 (i : Int) : 47 ∉ TL.tl (tsI i) := int_text_free 47 (.inr (.inl ⟨by decide, by decide⟩)) i
theorem S_stroke : TL.tl (S "/") = [47] := by decide +kernel
theorem split_one (a : Int) : Txt.split (tsI a) (S "/") = [tsI a] := by
  have := TL.split_join (y := S "/") S_stroke (by decide +kernel) (parts := [tsI a]) (by simp) (fun p hp => by rw [List.mem_singleton.mp hp]; exact free47 a)
  rwa [TL.join_eq, show PySem.Str.join (S "/") [tsI a] = tsI a from rfl] at this
theorem split_two (a c : Int) : Txt.split (tsI a ++ S "/" ++ tsI c) (S "/") = [tsI a, tsI c] := by
  have := TL.split_join (y := S "/") S_stroke (by decide +kernel) (parts := [tsI a, tsI c]) (by simp) (fun p hp => by
    rcases List.mem_cons.mp hp with e | e
    · rw [e]; exact free47 a
    · rw [List.mem_singleton.mp e]; exact free47 c)
  rwa [TL.join_eq, show PySem.Str.join (S "/") [tsI a, tsI c] = tsI a ++ S "/" ++ tsI c from rfl] at this
end K20

set_option Elab.async false
set_option linter.all false
set_option maxRecDepth 100000
set_option maxHeartbeats 4000000
/-! ## k20: odd texts -/
namespace K20
open PySem PySem.Spec PyProof.Rows L2 PL
open Classical
theorem isN_none' {d : D} (h : isN d = true) : d = .none := by cases d <;> first | rfl | cases h
theorem odd_none (s : PySem.Str) (h : isN (rF s) = true) : rF s = .none := isN_none' h
def oddL : List D := [.str (("" : PySem.Str)), .str (("/" : PySem.Str)), .str (("1/" : PySem.Str)), .str (("/2" : PySem.Str)), .str (("1/0" : PySem.Str)), .str (("2/4" : PySem.Str)), .str (("1/1" : PySem.Str)), .str (("-0" : PySem.Str)), .str (("01" : PySem.Str)), .str (("1/02" : PySem.Str)), .str (("+1" : PySem.Str)), .str ((" 1" : PySem.Str)), .str (("1 " : PySem.Str)), .str (("1/-2" : PySem.Str)), .str (("-1/-2" : PySem.Str)), .str (("x" : PySem.Str)),
  .str (("--1" : PySem.Str)), .str (("1.0" : PySem.Str)), .str (("1e2" : PySem.Str)), .str (("1/2/3" : PySem.Str)), .str (repS (("1" : PySem.Str)) 301), .str ((("1/" : PySem.Str)) ++ repS (("3" : PySem.Str)) 301), .str (("0/2" : PySem.Str)), .none, .int 5, .tuple [.int 1, .int 2], .bool true]
theorem odd_ok {Q : Rv → Prop} (hQ : Q (.val .none)) : ∀ d ∈ oddL, f_read_fraction [d] Q := by
  intro d hd
  unfold oddL at hd
  simp only [List.mem_cons, List.not_mem_nil, or_false] at hd
  have one : ∀ s : PySem.Str, s.length ≤ 9000 → isN (rF s) = true → f_read_fraction [.str s] Q := fun s h1 h2 => ⟨h1, by rw [odd_none s h2]; exact hQ⟩
  rcases hd with rfl | rfl | rfl | rfl | rfl | rfl | rfl | rfl | rfl | rfl | rfl | rfl | rfl | rfl | rfl | rfl | rfl | rfl | rfl | rfl | rfl | rfl | rfl | rfl | rfl | rfl | rfl
  all_goals first | exact one _ (by decide +kernel) (by decide +kernel) | exact hQ
theorem ones_ok : ∃ n : Int, PySem.intText? (repS (("1" : PySem.Str)) 300) = some n ∧ rF (repS (("1" : PySem.Str)) 300) = .tuple [.int n, .int 1] := by
  have ok : okI (repS (("1" : PySem.Str)) 300) = true := by decide +kernel
  obtain ⟨n, hn⟩ := ok_int ok
  refine ⟨n, hn, ?_⟩
  have sp : Txt.split (repS (("1" : PySem.Str)) 300) (S "/") = [repS (("1" : PySem.Str)) 300] := by decide +kernel
  have ri : rI (repS (("1" : PySem.Str)) 300) = .int n := by unfold rI; rw [if_pos ok, hn]
  unfold rF
  rw [sp, show [repS (("1" : PySem.Str)) 300].map rI = [rI (repS (("1" : PySem.Str)) 300)] from rfl, ri]
theorem red_ok {A B : Int} (h : 1 ≤ B) : ∃ p q : Int, A / ((Nat.gcd A.natAbs B.natAbs : Nat) : Int) = p ∧ B / ((Nat.gcd A.natAbs B.natAbs : Nat) : Int) = q ∧ Nat.gcd p.natAbs q.natAbs = 1 ∧ 1 ≤ q ∧ p.natAbs ≤ A.natAbs ∧ q ≤ B := by
  have g0 : 0 < Nat.gcd A.natAbs B.natAbs := Nat.gcd_pos_of_pos_right _ (by omega)
  obtain ⟨p, hp⟩ : ((Nat.gcd A.natAbs B.natAbs : Nat) : Int) ∣ A := Int.ofNat_dvd_left.mpr (Nat.gcd_dvd_left _ _)
  obtain ⟨q, hq⟩ : ((Nat.gcd A.natAbs B.natAbs : Nat) : Int) ∣ B := Int.ofNat_dvd_left.mpr (Nat.gcd_dvd_right _ _)
  have e1 : A.natAbs = Nat.gcd A.natAbs B.natAbs * p.natAbs := by
    conv => lhs; rw [hp]
    rw [Int.natAbs_mul, Int.natAbs_natCast]
  have e2 : B.natAbs = Nat.gcd A.natAbs B.natAbs * q.natAbs := by
    conv => lhs; rw [hq]
    rw [Int.natAbs_mul, Int.natAbs_natCast]
  have co : Nat.gcd p.natAbs q.natAbs = 1 := by
    have : Nat.gcd A.natAbs B.natAbs * Nat.gcd p.natAbs q.natAbs = Nat.gcd A.natAbs B.natAbs * 1 := by
      rw [← Nat.gcd_mul_left, ← e1, ← e2, Nat.mul_one]
    exact Nat.eq_of_mul_eq_mul_left g0 this
  generalize Nat.gcd A.natAbs B.natAbs = g at *
  have q1 : 1 ≤ q := by
    by_cases z0 : 0 < q
    · omega
    · exfalso
      have z : q ≤ 0 := by omega
      have : (g : Int) * q ≤ 0 := Int.mul_nonpos_of_nonneg_of_nonpos (by omega) z
      omega
  refine ⟨p, q, ?_, ?_, co, q1, ?_, ?_⟩
  · rw [hp]; exact Int.mul_ediv_cancel_left p (by omega)
  · rw [hq]; exact Int.mul_ediv_cancel_left q (by omega)
  · rw [e1]; exact Nat.le_mul_of_pos_left _ g0
  · rw [hq]
    have : 1 * q ≤ (g : Int) * q := Int.mul_le_mul_of_nonneg_right (by omega) (by omega)
    rwa [Int.one_mul] at this
end K20

set_option Elab.async false
set_option linter.all false
set_option maxRecDepth 100000
set_option maxHeartbeats 4000000
namespace K20
open PySem PySem.Spec PyProof.Rows L2 PL
open Classical
def top (i : Nat) : Stmt := PySem.Challenge.pw_howmuchdearer_k20_whole_numbers_and_base.main.body.getD i (.Pass ⟨0, 0, 0, 0⟩)
section
variable {P : Program} {w : World} {K : PySem.W.Frag} {mg : Str → Option Value} {base : Heap} {f : Addr}
abbrev t_is_integer : Stmt := top 12
theorem sc_is_integer : FnScope ["value"] ["value"] (defScope t_is_integer) := ⟨rfl, rfl, rfl, by decide +kernel, rfl, by decide +kernel, by decide +kernel⟩
theorem d_is_integer (z_bool : mg "bool" = none) (z_int : mg "int" = none) (z_isinstance : mg "isinstance" = none) (b : Bs) (cdv : Value) (A : Around) (outer : List Env) (s : Shared) (H : Hp) (E : XK) (hpt : b.pt = none) (hr : Room 0 (A.deeper (envOfC "is_integer" (defScope t_is_integer) s.heap.objs.size f cdv))) (hg : A.guards = some []) :
    Pss b (cxOf L2.CX0 P w K mg base ["value"] "is_integer" (defScope t_is_integer) f cdv A outer s H E) (defBody t_is_integer) (p_is_integer) := by
  have nd := sc_is_integer.nd
  exact (pss_one' (ps_ret' (pr_val (pv_and (pv_isi kit_int z_isinstance z_int PyProof.Rows.boot_int (pv_var (i := 0))) (pv_one (pv_not (pv_isi kit_bool z_isinstance z_bool PyProof.Rows.boot_bool (pv_var (i := 0)))))))))
abbrev t_read_integer : Stmt := top 13
theorem sc_read_integer : FnScope ["text", "figures", "sign"] ["text"] (defScope t_read_integer) := ⟨rfl, rfl, rfl, by decide +kernel, rfl, by decide +kernel, by decide +kernel⟩
theorem d_read_integer (z_all : mg "all" = none) (z_int : mg "int" = none) (z_len : mg "len" = none) (c_FIGURES : ∃ t, mg "FIGURES" = some (.str v_FIGURES t)) (c_MINUS : ∃ t, mg "MINUS" = some (.str v_MINUS t)) (c_MOST_FIGURES : ∃ t, mg "MOST_FIGURES" = some (.int v_MOST_FIGURES t)) (b : Bs) (cdv : Value) (A : Around) (outer : List Env) (s : Shared) (H : Hp) (E : XK) (hpt : b.pt = none) (hr : Room 0 (A.deeper (envOfC "read_integer" (defScope t_read_integer) s.heap.objs.size f cdv))) (hg : A.guards = some []) :
    Pss b (cxOf L2.CX0 P w K mg base ["text", "figures", "sign"] "read_integer" (defScope t_read_integer) f cdv A outer s H E) (defBody t_read_integer) (p_read_integer) := by
  have nd := sc_read_integer.nd
  exact (pss_cons' (ps_set' (i := 1) (pr_val (pv_if (pb_cmp op_eq opp_eqS (pv_slice (pv_var (i := 0)) pn_none (pn_some pv_int)) (pv_gstr c_MINUS) rfl) (pv_slice (pv_var (i := 0)) (pn_some pv_int) pn_none) (pv_var (i := 0)))) nd)
    (pss_cons' (ps_if' (PBw.pb (pbw_or (pb_not (pb_chain op_le opp_le op_le opp_le pv_int (pv_callB cr_len cp_len z_len PySem.boot_len (pas_cons (pv_var (i := 1)) pas_nil)) (pv_gint c_MOST_FIGURES))) (pbw_or1 (pb_not (pb_val (pv_callB (cr_all rfl) cp_all z_all PyProof.Rows.boot_all (pas_cons (pv_ofR (pr_own (po_lc (own := [("sign", 2)]) rfl nd (pit_seq (pv_var (i := 1))) (blkOk_by (N := ["text", "figures", "sign"]) (sc := defScope t_read_integer) (own := [("sign", 2)]) (by decide +kernel)) (fun _ _ _ _ _ => (pg_name (i := 2) nd rfl (by first | exact .inl rfl | exact .inr rfl))) gd_name (tin_name (by decide)) (fun _ _ _ _ _ => pbs_nil) (fun _ _ _ _ _ => (pv_cmp (or_in (u65 hr)) opp_in (pv_var (i := 2)) (pv_gstr c_FIGURES) rfl))))) pas_nil))))))) (pss_one' (ps_ret' (pr_val pv_non))) pss_nil')
    (pss_cons' (ps_if' (PBw.pb (pbw_and (pb_cmp op_eq opp_eqS (pv_ix (pv_var (i := 1)) pv_int) pv_str rfl) (pbw_and1 (PBw.pb (pbw_or (pb_cmp op_gt opp_gt (pv_callB cr_len cp_len z_len PySem.boot_len (pas_cons (pv_var (i := 1)) pas_nil)) pv_int rfl) (pbw_or1 (pb_cmp op_ne opp_neS (pv_var (i := 0)) (pv_var (i := 1)) rfl))))))) (pss_one' (ps_ret' (pr_val pv_non))) pss_nil')
    (pss_one' (ps_ret' (pr_val (pv_callTy cr_int cp_int z_int PyProof.Rows.boot_int (pas_cons (pv_var (i := 0)) pas_nil))))))))
abbrev t_common : Stmt := top 14
theorem sc_common : FnScope ["one", "other"] ["one", "other"] (defScope t_common) := ⟨rfl, rfl, rfl, by decide +kernel, rfl, by decide +kernel, by decide +kernel⟩
theorem d_common (m_gcd : mg "gcd" = some (.builtin "math.gcd")) (b : Bs) (cdv : Value) (A : Around) (outer : List Env) (s : Shared) (H : Hp) (E : XK) (hpt : b.pt = none) (hr : Room 0 (A.deeper (envOfC "common" (defScope t_common) s.heap.objs.size f cdv))) (hg : A.guards = some []) :
    Pss b (cxOf L2.CX0 P w K mg base ["one", "other"] "common" (defScope t_common) f cdv A outer s H E) (defBody t_common) (p_common) := by
  have nd := sc_common.nd
  exact (pss_one' (ps_ret' (pr_val (pv_callF cr_gcd cp_gcd m_gcd (pas_cons (pv_var (i := 0)) (pas_cons (pv_var (i := 1)) pas_nil))))))
abbrev t_is_fraction : Stmt := top 15
theorem sc_is_fraction : FnScope ["value", "part"] ["value"] (defScope t_is_fraction) := ⟨rfl, rfl, rfl, by decide +kernel, rfl, by decide +kernel, by decide +kernel⟩
theorem d_is_fraction {f_is_integer_ : Addr} {fd_is_integer : FuncData} {f_common_ : Addr} {fd_common : FuncData} (C_common : Cal P w K mg base L2.CX0 1 "common" f_common_ fd_common ["one", "other"] (spP K 2 f_common)) (C_is_integer : Cal P w K mg base L2.CX0 1 "is_integer" f_is_integer_ fd_is_integer ["value"] (spP K 1 f_is_integer)) (z_all : mg "all" = none) (z_isinstance : mg "isinstance" = none) (z_len : mg "len" = none) (z_tuple : mg "tuple" = none) (b : Bs) (cdv : Value) (A : Around) (outer : List Env) (s : Shared) (H : Hp) (E : XK) (hpt : b.pt = none) (hr : Room 1 (A.deeper (envOfC "is_fraction" (defScope t_is_fraction) s.heap.objs.size f cdv))) (hg : A.guards = some []) :
    Pss b (cxOf L2.CX0 P w K mg base ["value", "part"] "is_fraction" (defScope t_is_fraction) f cdv A outer s H E) (defBody t_is_fraction) (p_is_fraction) := by
  have nd := sc_is_fraction.nd
  exact (pss_cons' (ps_if' (PBw.pb (pbw_or (pb_not (pb_val (pv_isi kit_tuple z_isinstance z_tuple PyProof.Rows.boot_tuple (pv_var (i := 0))))) (pbw_or (pb_cmp (op_neD (u64 hr)) opp_ne (pv_callB cr_len cp_len z_len PySem.boot_len (pas_cons (pv_var (i := 0)) pas_nil)) pv_int rfl) (pbw_or1 (pb_not (pb_val (pv_callB (cr_all rfl) cp_all z_all PyProof.Rows.boot_all (pas_cons (pv_ofR (pr_own (po_lc (own := [("part", 1)]) rfl nd (pit_seq (pv_var (i := 0))) (blkOk_by (N := ["value", "part"]) (sc := defScope t_is_fraction) (own := [("part", 1)]) (by decide +kernel)) (fun _ _ _ _ _ => (pg_name (i := 1) nd rfl (by first | exact .inl rfl | exact .inr rfl))) gd_name (tin_name (by decide)) (fun _ _ _ _ _ => pbs_nil) (fun _ _ _ _ _ => (pv_ofR (pr_fun C_is_integer (fun _ => passN) hr hg (pas_cons (pv_var (i := 1)) pas_nil))))))) pas_nil)))))))) (pss_one' (ps_ret' (pr_val pv_bl))) pss_nil')
    (pss_one' (ps_ret' (pr_val (pv_and (pv_cmp op_ge opp_ge (pv_ix (pv_var (i := 0)) pv_int) pv_int rfl) (pv_one (pv_cmp (op_eqD (u64 hr)) opp_eq (pv_ofR (pr_fun C_common (fun _ => passN) hr hg (pas_cons (pv_ix (pv_var (i := 0)) pv_int) (pas_cons (pv_ix (pv_var (i := 0)) pv_int) pas_nil)))) pv_int rfl)))))))
abbrev t_is_told_fraction : Stmt := top 16
theorem sc_is_told_fraction : FnScope ["value"] ["value"] (defScope t_is_told_fraction) := ⟨rfl, rfl, rfl, by decide +kernel, rfl, by decide +kernel, by decide +kernel⟩
theorem d_is_told_fraction {f_is_fraction_ : Addr} {fd_is_fraction : FuncData} (C_is_fraction : Cal P w K mg base L2.CX0 2 "is_fraction" f_is_fraction_ fd_is_fraction ["value"] (spP K 1 f_is_fraction)) (z_abs : mg "abs" = none) (c_BEYOND : ∃ t, mg "BEYOND" = some (.int v_BEYOND t)) (b : Bs) (cdv : Value) (A : Around) (outer : List Env) (s : Shared) (H : Hp) (E : XK) (hpt : b.pt = none) (hr : Room 2 (A.deeper (envOfC "is_told_fraction" (defScope t_is_told_fraction) s.heap.objs.size f cdv))) (hg : A.guards = some []) :
    Pss b (cxOf L2.CX0 P w K mg base ["value"] "is_told_fraction" (defScope t_is_told_fraction) f cdv A outer s H E) (defBody t_is_told_fraction) (p_is_told_fraction) := by
  have nd := sc_is_told_fraction.nd
  exact (pss_one' (ps_ret' (pr_val (pv_and (pv_ofR (pr_fun C_is_fraction (fun _ => passN) hr hg (pas_cons (pv_var (i := 0)) pas_nil))) (pv_and (pv_cmp op_lt opp_lt (pv_callB call_abs cp_abs z_abs PyProof.Rows.boot_abs (pas_cons (pv_ix (pv_var (i := 0)) pv_int) pas_nil)) (pv_gint c_BEYOND) rfl) (pv_one (pv_cmp op_lt opp_lt (pv_ix (pv_var (i := 0)) pv_int) (pv_gint c_BEYOND) rfl)))))))
abbrev t_integer_text : Stmt := top 17
theorem sc_integer_text : FnScope ["one", "parts", "rest"] ["one"] (defScope t_integer_text) := ⟨rfl, rfl, rfl, by decide +kernel, rfl, by decide +kernel, by decide +kernel⟩
theorem d_integer_text {kk : Nat} {Φs : FT} {f_integer_text_ : Addr} {fd_integer_text : FuncData} (C_integer_text : Cal P w K mg base L2.CX0 kk "integer_text" f_integer_text_ fd_integer_text ["one"] (spP K 1 Φs)) (z_str : mg "str" = none) (c_MINUS : ∃ t, mg "MINUS" = some (.str v_MINUS t)) (c_PART : ∃ t, mg "PART" = some (.int v_PART t)) (b : Bs) (cdv : Value) (A : Around) (outer : List Env) (s : Shared) (H : Hp) (E : XK) (hpt : b.pt = none) (hr : Room kk (A.deeper (envOfC "integer_text" (defScope t_integer_text) s.heap.objs.size f cdv))) (hg : A.guards = some []) :
    Pss b (cxOf L2.CX0 P w K mg base ["one", "parts", "rest"] "integer_text" (defScope t_integer_text) f cdv A outer s H E) (defBody t_integer_text) (p_integer_text Φs) := by
  have nd := sc_integer_text.nd
  exact (pss_cons' (ps_if' (pb_cmp op_lt opp_lt (pv_var (i := 0)) pv_int rfl) (pss_one' (ps_ret' (pr_val (pv_bin or_add opp_add (pv_gstr c_MINUS) (pv_ofR (pr_fun C_integer_text (fun _ => passN) hr hg (pas_cons (pv_bin op_sub opp_sub pv_int (pv_var (i := 0))) pas_nil) (hk := Nat.le_refl _))))))) pss_nil')
    (pss_cons' (ps_par' (i := 1) (j := 2) (pr_own (po_lst pas_nil)) (pr_val (pv_var (i := 0))) rfl nd)
    (pss_cons' (ps_while' (passes_of rfl) (pb_cmp op_ge opp_ge (pv_var (i := 2)) (pv_gint c_PART) rfl) (pss_cons' (ps_append (i := 1) (pm_res (pr_val (pv_slice (pv_callTy cr_str cp_str z_str PyProof.Rows.boot_str (pas_cons (pv_bin or_add opp_add (pv_bin op_mod opp_mod (pv_var (i := 2)) (pv_gint c_PART)) (pv_gint c_PART)) pas_nil)) (pn_some pv_int) pn_none))))
    (pss_one' (ps_set' (i := 2) (pr_val (pv_bin op_fdivW opp_fdv (pv_var (i := 2)) (pv_gint c_PART))) nd))))
    (pss_one' (ps_ret' (pr_val (pv_bin or_add opp_add (pv_callTy cr_str cp_str z_str PyProof.Rows.boot_str (pas_cons (pv_var (i := 2)) pas_nil)) (pv_join pv_str (pv_ofR (pr_own (po_rev (pv_var (i := 1)))))))))))))
abbrev t_fraction_text : Stmt := top 18
theorem sc_fraction_text : FnScope ["one"] ["one"] (defScope t_fraction_text) := ⟨rfl, rfl, rfl, by decide +kernel, rfl, by decide +kernel, by decide +kernel⟩
theorem d_fraction_text {f_integer_text_ : Addr} {fd_integer_text : FuncData} (C_integer_text : Cal P w K mg base L2.CX0 2 "integer_text" f_integer_text_ fd_integer_text ["one"] (spP K 1 f_integer_text)) (c_STROKE : ∃ t, mg "STROKE" = some (.str v_STROKE t)) (b : Bs) (cdv : Value) (A : Around) (outer : List Env) (s : Shared) (H : Hp) (E : XK) (hpt : b.pt = none) (hr : Room 2 (A.deeper (envOfC "fraction_text" (defScope t_fraction_text) s.heap.objs.size f cdv))) (hg : A.guards = some []) :
    Pss b (cxOf L2.CX0 P w K mg base ["one"] "fraction_text" (defScope t_fraction_text) f cdv A outer s H E) (defBody t_fraction_text) (p_fraction_text) := by
  have nd := sc_fraction_text.nd
  exact (pss_one' (ps_ret' (pr_val (pv_if (pb_cmp (op_eqD (u64 hr)) opp_eq (pv_ix (pv_var (i := 0)) pv_int) pv_int rfl) (pv_ofR (pr_fun C_integer_text (fun _ => passN) hr hg (pas_cons (pv_ix (pv_var (i := 0)) pv_int) pas_nil))) (pv_bin or_add opp_add (pv_bin or_add opp_add (pv_ofR (pr_fun C_integer_text (fun _ => passN) hr hg (pas_cons (pv_ix (pv_var (i := 0)) pv_int) pas_nil))) (pv_gstr c_STROKE)) (pv_ofR (pr_fun C_integer_text (fun _ => passN) hr hg (pas_cons (pv_ix (pv_var (i := 0)) pv_int) pas_nil))))))))
abbrev t_read_fraction : Stmt := top 19
theorem sc_read_fraction : FnScope ["text", "parts", "numbers", "found", "part"] ["text"] (defScope t_read_fraction) := ⟨rfl, rfl, rfl, by decide +kernel, rfl, by decide +kernel, by decide +kernel⟩
theorem d_read_fraction {f_read_integer_ : Addr} {fd_read_integer : FuncData} {f_is_fraction_ : Addr} {fd_is_fraction : FuncData} (C_is_fraction : Cal P w K mg base L2.CX0 2 "is_fraction" f_is_fraction_ fd_is_fraction ["value"] (spP K 1 f_is_fraction)) (C_read_integer : Cal P w K mg base L2.CX0 1 "read_integer" f_read_integer_ fd_read_integer ["text"] (spP K 1 f_read_integer)) (z_isinstance : mg "isinstance" = none) (z_len : mg "len" = none) (z_str : mg "str" = none) (c_STROKE : ∃ t, mg "STROKE" = some (.str v_STROKE t)) (b : Bs) (cdv : Value) (A : Around) (outer : List Env) (s : Shared) (H : Hp) (E : XK) (hpt : b.pt = none) (hr : Room 2 (A.deeper (envOfC "read_fraction" (defScope t_read_fraction) s.heap.objs.size f cdv))) (hg : A.guards = some []) :
    Pss b (cxOf L2.CX0 P w K mg base ["text", "parts", "numbers", "found", "part"] "read_fraction" (defScope t_read_fraction) f cdv A outer s H E) (defBody t_read_fraction) (p_read_fraction) := by
  have nd := sc_read_fraction.nd
  exact (pss_cons' (ps_set' (i := 1) (pr_val (pv_if (pb_val (pv_isi kit_str z_isinstance z_str PyProof.Rows.boot_str (pv_var (i := 0)))) (pv_split (pv_var (i := 0)) (pv_gstr c_STROKE)) (pv_ofR (pr_own (po_lst pas_nil))))) nd)
    (pss_cons' (ps_setLc' (i := 2) (own := [("part", 4)]) rfl nd (pit_seq (pv_var (i := 1))) (blkOk_by (N := ["text", "parts", "numbers", "found", "part"]) (sc := defScope t_read_fraction) (own := [("part", 4)]) (by decide +kernel)) (fun _ _ _ _ _ => (pg_name (i := 4) nd rfl (by first | exact .inl rfl | exact .inr rfl))) gd_name (tin_name (by decide)) (fun _ _ _ _ _ => pbs_nil) (fun _ _ _ _ _ => (pv_ofR (pr_fun C_read_integer (fun _ => passN) hr hg (pas_cons (pv_var (i := 4)) pas_nil)))))
    (pss_cons' (ps_if' (PBw.pb (pbw_or (pb_not (pb_chain op_le opp_le op_le opp_le pv_int (pv_callB cr_len cp_len z_len PySem.boot_len (pas_cons (pv_var (i := 1)) pas_nil)) pv_int)) (pbw_or1 (pb_cmp (or_in (u65 hr)) opp_in pv_non (pv_var (i := 2)) rfl)))) (pss_one' (ps_ret' (pr_val pv_non))) pss_nil')
    (pss_cons' (ps_if' (pb_cmp (op_eqD (u64 hr)) opp_eq (pv_callB cr_len cp_len z_len PySem.boot_len (pas_cons (pv_var (i := 1)) pas_nil)) pv_int rfl) (pss_one' (ps_ret' (pr_val (pv_tup (pas_cons (pv_ix (pv_var (i := 2)) pv_int) (pas_cons pv_int pas_nil)))))) pss_nil')
    (pss_cons' (ps_set' (i := 3) (pr_val (pv_tup (pas_cons (pv_ix (pv_var (i := 2)) pv_int) (pas_cons (pv_ix (pv_var (i := 2)) pv_int) pas_nil)))) nd)
    (pss_one' (ps_ret' (pr_val (pv_if (PBw.pb (pbw_and (pb_cmp op_gt opp_gt (pv_ix (pv_var (i := 2)) pv_int) pv_int rfl) (pbw_and1 (pb_val (pv_ofR (pr_fun C_is_fraction (fun _ => passN) hr hg (pas_cons (pv_var (i := 3)) pas_nil))))))) (pv_var (i := 3)) pv_non)))))))))
abbrev t_base_of : Stmt := top 22
theorem sc_base_of : FnScope ["numbers", "found", "number", "waiting", "one", "some", "other", "both", "at"] ["numbers"] (defScope t_base_of) := ⟨rfl, rfl, rfl, by decide +kernel, rfl, by decide +kernel, by decide +kernel⟩
theorem d_base_of {f_common_ : Addr} {fd_common : FuncData} (C_common : Cal P w K mg base L2.CX0 1 "common" f_common_ fd_common ["one", "other"] (spP K 2 f_common)) (z_enumerate : mg "enumerate" = none) (z_sorted : mg "sorted" = none) (b : Bs) (cdv : Value) (A : Around) (outer : List Env) (s : Shared) (H : Hp) (E : XK) (hpt : b.pt = none) (hr : Room 1 (A.deeper (envOfC "base_of" (defScope t_base_of) s.heap.objs.size f cdv))) (hg : A.guards = some []) :
    Pss b (cxOf L2.CX0 P w K mg base ["numbers", "found", "number", "waiting", "one", "some", "other", "both", "at"] "base_of" (defScope t_base_of) f cdv A outer s H E) (defBody t_base_of) (p_base_of) := by
  have nd := sc_base_of.nd
  exact (pss_cons' (ps_set' (i := 1) (pr_own (po_lst pas_nil)) nd)
    (pss_cons' (ps_for' (passes_of rfl) rfl (pim_seq (pm_var (i := 0))) (pg_name (i := 2) nd rfl (by first | exact .inl rfl | exact .inr rfl)) gd_name (pss_cons' (ps_set' (i := 3) (pr_own (po_lst (pas_cons (pv_var (i := 2)) pas_nil))) nd)
    (pss_one' (ps_while' (passes_of rfl) (pb_cmp (op_neD (u64 hr)) opp_ne (pv_var (i := 3)) (pv_ofR (pr_own (po_lst pas_nil))) rfl) (pss_cons' (ps_asg' (pg_name (i := 4) nd rfl (by first | exact .inl rfl | exact .inr rfl)) gd_name (pm_pop (i := 3)))
    (pss_cons' (ps_setLc' (i := 5) (own := [("at", 8), ("other", 6)]) rfl nd (pit_enum z_enumerate (pv_var (i := 1))) (blkOk_by (N := ["numbers", "found", "number", "waiting", "one", "some", "other", "both", "at"]) (sc := defScope t_base_of) (own := [("at", 8), ("other", 6)]) (by decide +kernel)) (fun _ _ _ _ _ => (pg_tup rfl (pgs_cons (pg_name (i := 8) nd rfl (by first | exact .inl rfl | exact .inr rfl)) (pgs_cons (pg_name (i := 6) nd rfl (by first | exact .inl rfl | exact .inr rfl)) pgs_nil)))) (gd_tup (gds_cons gd_name (gds_cons gd_name gds_nil))) (tin_tup (tins_cons (tin_name (by decide)) (tins_cons (tin_name (by decide)) tins_nil))) (fun _ _ _ _ _ => (pbs_one (pb_cmp op_gt opp_gt (pv_ofR (pr_fun C_common (fun _ => passN) hr hg (pas_cons (pv_var (i := 4)) (pas_cons (pv_var (i := 6)) pas_nil)))) pv_int rfl))) (fun _ _ _ _ _ => (pv_var (i := 8))))
    (pss_one' (ps_if' (PBw.pb (pbw_and (pb_cmp op_gt opp_gt (pv_var (i := 4)) pv_int rfl) (pbw_and1 (pb_cmp (op_eqD (u64 hr)) opp_eq (pv_var (i := 5)) (pv_ofR (pr_own (po_lst pas_nil))) rfl)))) (pss_one' (ps_append (i := 1) (pm_var (i := 4)))) (pss_one' (ps_if' (pb_cmp op_gt opp_gt (pv_var (i := 4)) pv_int rfl) (pss_cons' (ps_asg' (pg_name (i := 6) nd rfl (by first | exact .inl rfl | exact .inr rfl)) gd_name (pm_popAt (i := 1) (pv_ix (pv_var (i := 5)) pv_int)))
    (pss_cons' (ps_set' (i := 7) (pr_fun C_common (fun _ => passN) hr hg (pas_cons (pv_var (i := 4)) (pas_cons (pv_var (i := 6)) pas_nil))) nd)
    (pss_one' (ps_extend (i := 3) (pm_res (pr_own (po_lst (pas_cons (pv_bin op_fdivW opp_fdv (pv_var (i := 4)) (pv_var (i := 7))) (pas_cons (pv_bin op_fdivW opp_fdv (pv_var (i := 6)) (pv_var (i := 7))) (pas_cons (pv_var (i := 7)) pas_nil)))))))))) pss_nil'))))))))))
    (pss_one' (ps_ret' (pr_own (po_callB cr_sortedI co_sortI z_sorted PyProof.Rows.boot_sorted (pas_cons (pv_var (i := 1)) pas_nil)))))))
abbrev t_exponent_in : Stmt := top 23
theorem sc_exponent_in : FnScope ["number", "part", "found", "left"] ["number", "part"] (defScope t_exponent_in) := ⟨rfl, rfl, rfl, by decide +kernel, rfl, by decide +kernel, by decide +kernel⟩
theorem d_exponent_in  (b : Bs) (cdv : Value) (A : Around) (outer : List Env) (s : Shared) (H : Hp) (E : XK) (hpt : b.pt = none) (hr : Room 0 (A.deeper (envOfC "exponent_in" (defScope t_exponent_in) s.heap.objs.size f cdv))) (hg : A.guards = some []) :
    Pss b (cxOf L2.CX0 P w K mg base ["number", "part", "found", "left"] "exponent_in" (defScope t_exponent_in) f cdv A outer s H E) (defBody t_exponent_in) (p_exponent_in) := by
  have nd := sc_exponent_in.nd
  exact (pss_cons' (ps_par' (i := 2) (j := 3) (pr_val pv_int) (pr_val (pv_var (i := 0))) rfl nd)
    (pss_cons' (ps_while' (passes_of rfl) (pb_cmp (op_eqD (u64 hr)) opp_eq (pv_bin op_mod opp_mod (pv_var (i := 3)) (pv_var (i := 1))) pv_int rfl) (pss_one' (ps_par' (i := 2) (j := 3) (pr_val (pv_bin or_add opp_add (pv_var (i := 2)) pv_int)) (pr_val (pv_bin op_fdivW opp_fdv (pv_var (i := 3)) (pv_var (i := 1)))) rfl nd)))
    (pss_one' (ps_ret' (pr_val (pv_tup (pas_cons (pv_var (i := 2)) (pas_cons (pv_var (i := 3)) pas_nil))))))))
abbrev t_exponents_by : Stmt := top 24
theorem sc_exponents_by : FnScope ["base", "number", "found", "left", "part", "many"] ["base", "number"] (defScope t_exponents_by) := ⟨rfl, rfl, rfl, by decide +kernel, rfl, by decide +kernel, by decide +kernel⟩
theorem d_exponents_by {f_exponent_in_ : Addr} {fd_exponent_in : FuncData} (C_exponent_in : Cal P w K mg base L2.CX0 1 "exponent_in" f_exponent_in_ fd_exponent_in ["number", "part"] (spP K 2 f_exponent_in)) (z_tuple : mg "tuple" = none) (b : Bs) (cdv : Value) (A : Around) (outer : List Env) (s : Shared) (H : Hp) (E : XK) (hpt : b.pt = none) (hr : Room 1 (A.deeper (envOfC "exponents_by" (defScope t_exponents_by) s.heap.objs.size f cdv))) (hg : A.guards = some []) :
    Pss b (cxOf L2.CX0 P w K mg base ["base", "number", "found", "left", "part", "many"] "exponents_by" (defScope t_exponents_by) f cdv A outer s H E) (defBody t_exponents_by) (p_exponents_by) := by
  have nd := sc_exponents_by.nd
  exact (pss_cons' (ps_par' (i := 2) (j := 3) (pr_own (po_lst pas_nil)) (pr_val (pv_var (i := 1))) rfl nd)
    (pss_cons' (ps_for' (passes_of rfl) rfl (pim_seq (pm_var (i := 0))) (pg_name (i := 4) nd rfl (by first | exact .inl rfl | exact .inr rfl)) gd_name (pss_cons' (ps_asg' (pg_tup rfl (pgs_cons (pg_name (i := 5) nd rfl (by first | exact .inl rfl | exact .inr rfl)) (pgs_cons (pg_name (i := 3) nd rfl (by first | exact .inl rfl | exact .inr rfl)) pgs_nil))) (gd_tup (gds_cons gd_name (gds_cons gd_name gds_nil))) (pm_res (pr_fun C_exponent_in (fun _ => passN) hr hg (pas_cons (pv_var (i := 3)) (pas_cons (pv_var (i := 4)) pas_nil)))))
    (pss_one' (ps_append (i := 2) (pm_var (i := 5))))))
    (pss_one' (ps_ret' (pr_val (pv_if (pb_cmp (op_eqD (u64 hr)) opp_eq (pv_var (i := 3)) pv_int rfl) (pv_callTy call_tuple_of cp_tuple z_tuple PyProof.Rows.boot_tuple (pas_cons (pv_var (i := 2)) pas_nil)) pv_non))))))
abbrev t_check_based : Stmt := top 25
theorem sc_check_based : FnScope ["numbers", "one"] ["numbers"] (defScope t_check_based) := ⟨rfl, rfl, rfl, by decide +kernel, rfl, by decide +kernel, by decide +kernel⟩
theorem d_check_based {f_is_told_fraction_ : Addr} {fd_is_told_fraction : FuncData} (C_is_told_fraction : Cal P w K mg base L2.CX0 3 "is_told_fraction" f_is_told_fraction_ fd_is_told_fraction ["value"] (spP K 1 f_is_told_fraction)) (z_all : mg "all" = none) (z_isinstance : mg "isinstance" = none) (z_len : mg "len" = none) (z_tuple : mg "tuple" = none) (c_MOST_BASED : ∃ t, mg "MOST_BASED" = some (.int v_MOST_BASED t)) (b : Bs) (cdv : Value) (A : Around) (outer : List Env) (s : Shared) (H : Hp) (E : XK) (hpt : b.pt = none) (hr : Room 3 (A.deeper (envOfC "check_based" (defScope t_check_based) s.heap.objs.size f cdv))) (hg : A.guards = some []) :
    Pss b (cxOf L2.CX0 P w K mg base ["numbers", "one"] "check_based" (defScope t_check_based) f cdv A outer s H E) (defBody t_check_based) (p_check_based) := by
  have nd := sc_check_based.nd
  exact (pss_cons' (ps_if' (PBw.pb (pbw_or (pb_not (pb_val (pv_isi kit_tuple z_isinstance z_tuple PyProof.Rows.boot_tuple (pv_var (i := 0))))) (pbw_or1 (pb_cmp op_gt opp_gt (pv_callB cr_len cp_len z_len PySem.boot_len (pas_cons (pv_var (i := 0)) pas_nil)) (pv_gint c_MOST_BASED) rfl)))) (pss_one' ps_never') pss_nil')
    (pss_one' (ps_if' (pb_not (pb_val (pv_callB (cr_all rfl) cp_all z_all PyProof.Rows.boot_all (pas_cons (pv_ofR (pr_own (po_lc (own := [("one", 1)]) rfl nd (pit_seq (pv_var (i := 0))) (blkOk_by (N := ["numbers", "one"]) (sc := defScope t_check_based) (own := [("one", 1)]) (by decide +kernel)) (fun _ _ _ _ _ => (pg_name (i := 1) nd rfl (by first | exact .inl rfl | exact .inr rfl))) gd_name (tin_name (by decide)) (fun _ _ _ _ _ => pbs_nil) (fun _ _ _ _ _ => (pv_and (pv_ofR (pr_fun C_is_told_fraction (fun _ => passN) hr hg (pas_cons (pv_var (i := 1)) pas_nil))) (pv_one (pv_cmp op_gt opp_gt (pv_ix (pv_var (i := 1)) pv_int) pv_int rfl))))))) pas_nil)))) (pss_one' ps_never') pss_nil')))
abbrev t_coprime_base : Stmt := top 26
theorem sc_coprime_base : FnScope ["numbers", "one", "part"] ["numbers"] (defScope t_coprime_base) := ⟨rfl, rfl, rfl, by decide +kernel, rfl, by decide +kernel, by decide +kernel⟩
theorem d_coprime_base {f_check_based_ : Addr} {fd_check_based : FuncData} {f_base_of_ : Addr} {fd_base_of : FuncData} (C_base_of : Cal P w K mg base L2.CX0 2 "base_of" f_base_of_ fd_base_of ["numbers"] (spP K 1 f_base_of)) (C_check_based : Cal P w K mg base L2.CX0 4 "check_based" f_check_based_ fd_check_based ["numbers"] (spP K 1 f_check_based)) (z_tuple : mg "tuple" = none) (b : Bs) (cdv : Value) (A : Around) (outer : List Env) (s : Shared) (H : Hp) (E : XK) (hpt : b.pt = none) (hr : Room 4 (A.deeper (envOfC "coprime_base" (defScope t_coprime_base) s.heap.objs.size f cdv))) (hg : A.guards = some []) :
    Pss b (cxOf L2.CX0 P w K mg base ["numbers", "one", "part"] "coprime_base" (defScope t_coprime_base) f cdv A outer s H E) (defBody t_coprime_base) (p_coprime_base) := by
  have nd := sc_coprime_base.nd
  exact (pss_cons' (ps_ex' (pm_res (pr_fun C_check_based (fun _ => passN) hr hg (pas_cons (pv_var (i := 0)) pas_nil))))
    (pss_one' (ps_ret' (pr_val (pv_callTy call_tuple_of cp_tuple z_tuple PyProof.Rows.boot_tuple (pas_cons (pv_ofR (pr_fun C_base_of (fun _ => passN) hr hg (pas_cons (pv_ofR (pr_own (po_lc2 (own := [("one", 1), ("part", 2)]) (vs1 := [2]) rfl nd (pit_seq (pv_var (i := 0))) (blkOk_by (N := ["numbers", "one", "part"]) (sc := defScope t_coprime_base) (own := [("one", 1), ("part", 2)]) (by decide +kernel)) (by decide) (fun _ _ _ _ _ => (pg_name (i := 1) nd rfl (by first | exact .inl rfl | exact .inr rfl))) gd_name (tin_name (by decide)) (fun _ _ _ _ _ => pbs_nil) (fun _ _ _ _ _ => (pit_seq (pv_var (i := 1)))) (fun _ _ _ _ _ => (pg_name (i := 2) nd rfl (by first | exact .inl rfl | exact .inr rfl))) gd_name (tin_name (by decide)) (fun _ _ _ _ _ => pbs_nil) (fun _ _ _ _ _ => (pv_var (i := 2)))))) pas_nil))) pas_nil))))))
abbrev t_exponents_over : Stmt := top 27
theorem sc_exponents_over : FnScope ["base", "number", "top", "low", "more", "less", "one"] ["base", "number"] (defScope t_exponents_over) := ⟨rfl, rfl, rfl, by decide +kernel, rfl, by decide +kernel, by decide +kernel⟩
theorem d_exponents_over {f_is_integer_ : Addr} {fd_is_integer : FuncData} {f_base_of_ : Addr} {fd_base_of : FuncData} {f_is_told_fraction_ : Addr} {fd_is_told_fraction : FuncData} {f_exponents_by_ : Addr} {fd_exponents_by : FuncData} (C_exponents_by : Cal P w K mg base L2.CX0 2 "exponents_by" f_exponents_by_ fd_exponents_by ["base", "number"] (spP K 2 f_exponents_by)) (C_is_told_fraction : Cal P w K mg base L2.CX0 3 "is_told_fraction" f_is_told_fraction_ fd_is_told_fraction ["value"] (spP K 1 f_is_told_fraction)) (C_base_of : Cal P w K mg base L2.CX0 2 "base_of" f_base_of_ fd_base_of ["numbers"] (spP K 1 f_base_of)) (C_is_integer : Cal P w K mg base L2.CX0 1 "is_integer" f_is_integer_ fd_is_integer ["value"] (spP K 1 f_is_integer)) (z_all : mg "all" = none) (z_isinstance : mg "isinstance" = none) (z_list : mg "list" = none) (z_tuple : mg "tuple" = none) (z_zip : mg "zip" = none) (b : Bs) (cdv : Value) (A : Around) (outer : List Env) (s : Shared) (H : Hp) (E : XK) (hpt : b.pt = none) (hr : Room 3 (A.deeper (envOfC "exponents_over" (defScope t_exponents_over) s.heap.objs.size f cdv))) (hg : A.guards = some []) :
    Pss b (cxOf L2.CX0 P w K mg base ["base", "number", "top", "low", "more", "less", "one"] "exponents_over" (defScope t_exponents_over) f cdv A outer s H E) (defBody t_exponents_over) (p_exponents_over) := by
  have nd := sc_exponents_over.nd
  exact (pss_cons' (ps_if' (PBw.pb (pbw_or (pb_not (pb_val (pv_isi kit_tuple z_isinstance z_tuple PyProof.Rows.boot_tuple (pv_var (i := 0))))) (pbw_or1 (pb_not (pb_val (pv_callB (cr_all rfl) cp_all z_all PyProof.Rows.boot_all (pas_cons (pv_ofR (pr_own (po_lc (own := [("one", 6)]) rfl nd (pit_seq (pv_var (i := 0))) (blkOk_by (N := ["base", "number", "top", "low", "more", "less", "one"]) (sc := defScope t_exponents_over) (own := [("one", 6)]) (by decide +kernel)) (fun _ _ _ _ _ => (pg_name (i := 6) nd rfl (by first | exact .inl rfl | exact .inr rfl))) gd_name (tin_name (by decide)) (fun _ _ _ _ _ => pbs_nil) (fun _ _ _ _ _ => (pv_ofR (pr_fun C_is_integer (fun _ => passN) hr hg (pas_cons (pv_var (i := 6)) pas_nil))))))) pas_nil))))))) (pss_one' ps_never') pss_nil')
    (pss_cons' (ps_if' (PBw.pb (pbw_or (pb_not (pb_val (pv_callB (cr_all rfl) cp_all z_all PyProof.Rows.boot_all (pas_cons (pv_ofR (pr_own (po_lc (own := [("one", 6)]) rfl nd (pit_seq (pv_var (i := 0))) (blkOk_by (N := ["base", "number", "top", "low", "more", "less", "one"]) (sc := defScope t_exponents_over) (own := [("one", 6)]) (by decide +kernel)) (fun _ _ _ _ _ => (pg_name (i := 6) nd rfl (by first | exact .inl rfl | exact .inr rfl))) gd_name (tin_name (by decide)) (fun _ _ _ _ _ => pbs_nil) (fun _ _ _ _ _ => (pv_cmp op_gt opp_gt (pv_var (i := 6)) pv_int rfl))))) pas_nil)))) (pbw_or1 (pb_cmp (op_neD (u64 hr)) opp_ne (pv_ofR (pr_own (po_callTy call_list_of co_list z_list PyProof.Rows.boot_list (pas_cons (pv_var (i := 0)) pas_nil)))) (pv_ofR (pr_fun C_base_of (fun _ => passN) hr hg (pas_cons (pv_var (i := 0)) pas_nil))) rfl)))) (pss_one' ps_never') pss_nil')
    (pss_cons' (ps_if' (PBw.pb (pbw_or (pb_not (pb_val (pv_ofR (pr_fun C_is_told_fraction (fun _ => passN) hr hg (pas_cons (pv_var (i := 1)) pas_nil))))) (pbw_or1 (pb_cmp op_lt opp_lt (pv_ix (pv_var (i := 1)) pv_int) pv_int rfl)))) (pss_one' ps_never') pss_nil')
    (pss_cons' (ps_par' (i := 2) (j := 3) (pr_fun C_exponents_by (fun _ => passN) hr hg (pas_cons (pv_var (i := 0)) (pas_cons (pv_ix (pv_var (i := 1)) pv_int) pas_nil))) (pr_fun C_exponents_by (fun _ => passN) hr hg (pas_cons (pv_var (i := 0)) (pas_cons (pv_ix (pv_var (i := 1)) pv_int) pas_nil))) rfl nd)
    (pss_one' (ps_ret' (pr_val (pv_if (pb_cmp (or_in (u65 hr)) opp_in pv_non (pv_tup (pas_cons (pv_var (i := 2)) (pas_cons (pv_var (i := 3)) pas_nil))) rfl) pv_non (pv_callTy call_tuple_of cp_tuple z_tuple PyProof.Rows.boot_tuple (pas_cons (pv_ofR (pr_own (po_lc (own := [("more", 4), ("less", 5)]) rfl nd (pit_zip z_zip (pv_var (i := 2)) (pv_var (i := 3))) (blkOk_by (N := ["base", "number", "top", "low", "more", "less", "one"]) (sc := defScope t_exponents_over) (own := [("more", 4), ("less", 5)]) (by decide +kernel)) (fun _ _ _ _ _ => (pg_tup rfl (pgs_cons (pg_name (i := 4) nd rfl (by first | exact .inl rfl | exact .inr rfl)) (pgs_cons (pg_name (i := 5) nd rfl (by first | exact .inl rfl | exact .inr rfl)) pgs_nil)))) (gd_tup (gds_cons gd_name (gds_cons gd_name gds_nil))) (tin_tup (tins_cons (tin_name (by decide)) (tins_cons (tin_name (by decide)) tins_nil))) (fun _ _ _ _ _ => pbs_nil) (fun _ _ _ _ _ => (pv_bin op_sub opp_sub (pv_var (i := 4)) (pv_var (i := 5))))))) pas_nil))))))))))
abbrev t_law_common : Stmt := top 29
theorem sc_law_common : FnScope ["one", "other"] ["one", "other"] (defScope t_law_common) := ⟨rfl, rfl, rfl, by decide +kernel, rfl, by decide +kernel, by decide +kernel⟩
theorem d_law_common (z_abs : mg "abs" = none) (z_int : mg "int" = none) (b : Bs) (cdv : Value) (A : Around) (outer : List Env) (s : Shared) (H : Hp) (E : XK) (hpt : b.pt = none) (hr : Room 0 (A.deeper (envOfC "_law_common" (defScope t_law_common) s.heap.objs.size f cdv))) (hg : A.guards = some []) :
    Pss b (cxOf L2.CX0 P w K mg base ["one", "other"] "_law_common" (defScope t_law_common) f cdv A outer s H E) (defBody t_law_common) (p_law_common) := by
  have nd := sc_law_common.nd
  exact (pss_cons' (ps_while' (passes_of rfl) (pb_cmp (op_neD (u64 hr)) opp_ne (pv_var (i := 1)) pv_int rfl) (pss_one' (ps_par' (i := 0) (j := 1) (pr_val (pv_var (i := 1))) (pr_val (pv_bin op_mod opp_mod (pv_var (i := 0)) (pv_var (i := 1)))) rfl nd)))
    (pss_one' (ps_ret' (pr_val (pv_callB call_abs cp_abs z_abs PyProof.Rows.boot_abs (pas_cons (pv_callTy cr_int cp_int z_int PyProof.Rows.boot_int (pas_cons (pv_var (i := 0)) pas_nil)) pas_nil))))))
abbrev t_law_take : Stmt := top 30
theorem sc_law_take : FnScope ["pot", "upto", "digit", "prime", "blend"] ["pot", "upto"] (defScope t_law_take) := ⟨rfl, rfl, rfl, by decide +kernel, rfl, by decide +kernel, by decide +kernel⟩
theorem d_law_take (z_int : mg "int" = none) (b : Bs) (cdv : Value) (A : Around) (outer : List Env) (s : Shared) (H : Hp) (E : XK) (hr : Room 0 (A.deeper (envOfC "_law_take" (defScope t_law_take) s.heap.objs.size f cdv))) (hg : A.guards = some []) :
    Pss b (cxOf L2.CX0 P w K mg base ["pot", "upto", "digit", "prime", "blend"] "_law_take" (defScope t_law_take) f cdv A outer s H E) (defBody t_law_take) (p_law_take) := by
  have nd := sc_law_take.nd
  exact (pss_cons' (ps_if' (pb_cmp op_gt opp_gt (pv_pot0 (i := 0)) pv_int rfl) (pss_cons' (ps_set' (i := 2) (pr_val (pv_bin op_mod opp_mod (pv_callTy cr_int cp_int z_int PyProof.Rows.boot_int (pas_cons (pv_pot0 (i := 0)) pas_nil)) (pv_var (i := 1)))) nd)
    (pss_cons' (ps_pot0 (i := 0) (pv_bin op_fdivW opp_fdv (pv_pot0 (i := 0)) (pv_var (i := 1))))
    (pss_one' (ps_retV' (i := 2))))) pss_nil')
    (pss_cons' (ps_pot2 (i := 0) (pv_bin or_add opp_add (pv_pot2 (i := 0)) pv_int))
    (pss_cons' (ps_set' (i := 3) (pr_val (pv_ix (pv_ofR (pr_own (po_lst (pas_cons pv_int (pas_cons pv_int (pas_cons pv_int (pas_cons pv_int (pas_cons pv_int pas_nil)))))))) (pv_bin op_mod opp_mod (pv_callTy cr_int cp_int z_int PyProof.Rows.boot_int (pas_cons (pv_pot2 (i := 0)) pas_nil)) pv_int))) nd)
    (pss_cons' (ps_set' (i := 4) (pr_val (pv_bin op_mod opp_mod (pv_callTy cr_int cp_int z_int PyProof.Rows.boot_int (pas_cons (pv_bin op_pow opp_pow (pv_callTy cr_int cp_int z_int PyProof.Rows.boot_int (pas_cons (pv_bin or_add opp_add (pv_bin or_add opp_add (pv_pot1 (i := 0)) (pv_bin or_mul opp_mul (pv_bin or_mul opp_mul pv_int (pv_pot2 (i := 0))) (pv_pot2 (i := 0)))) pv_int) pas_nil)) pv_int) pas_nil)) (pv_var (i := 3)))) nd)
    (pss_cons' (ps_set' (i := 4) (pr_val (pv_bin op_mod opp_mod (pv_callTy cr_int cp_int z_int PyProof.Rows.boot_int (pas_cons (pv_bin or_mul opp_mul (pv_var (i := 4)) (pv_bin or_add opp_add (pv_bin op_mod opp_mod (pv_callTy cr_int cp_int z_int PyProof.Rows.boot_int (pas_cons (pv_var (i := 4)) pas_nil)) pv_int) (pv_bin or_mul opp_mul pv_int (pv_pot2 (i := 0))))) pas_nil)) pv_int)) nd)
    (pss_one' (ps_ret' (pr_val (pv_bin op_mod opp_mod (pv_callTy cr_int cp_int z_int PyProof.Rows.boot_int (pas_cons (pv_bin op_fdivW opp_fdv (pv_var (i := 4)) pv_int) pas_nil)) (pv_var (i := 1)))))))))))
abbrev t_law_of : Stmt := top 31
theorem sc_law_of : FnScope ["pot", "some"] ["pot", "some"] (defScope t_law_of) := ⟨rfl, rfl, rfl, by decide +kernel, rfl, by decide +kernel, by decide +kernel⟩
theorem d_law_of {f_law_take_ : Addr} {fd_law_take : FuncData} (C_law_take : Cal P w K mg base L2.CX0 1 "_law_take" f_law_take_ fd_law_take ["pot", "upto"] (spD K 1 f_law_take)) (z_len : mg "len" = none) (b : Bs) (cdv : Value) (A : Around) (outer : List Env) (s : Shared) (H : Hp) (E : XK) (hr : Room 1 (A.deeper (envOfC "_law_of" (defScope t_law_of) s.heap.objs.size f cdv))) (hg : A.guards = some []) :
    Pss b (cxOf L2.CX0 P w K mg base ["pot", "some"] "_law_of" (defScope t_law_of) f cdv A outer s H E) (defBody t_law_of) (p_law_of) := by
  have nd := sc_law_of.nd
  exact (pss_one' (ps_ret' (pr_val (pv_ix (pv_var (i := 1)) (pv_ofR (pr_funD (i := 0) C_law_take (fun _ => passN) hr hg (pas_cons (pv_callB cr_len cp_len z_len PySem.boot_len (pas_cons (pv_var (i := 1)) pas_nil)) pas_nil)))))))
abbrev t_law_reduced : Stmt := top 32
theorem sc_law_reduced : FnScope ["top", "low", "one", "other", "by"] ["top", "low"] (defScope t_law_reduced) := ⟨rfl, rfl, rfl, by decide +kernel, rfl, by decide +kernel, by decide +kernel⟩
theorem d_law_reduced (z_abs : mg "abs" = none) (z_int : mg "int" = none) (b : Bs) (cdv : Value) (A : Around) (outer : List Env) (s : Shared) (H : Hp) (E : XK) (hpt : b.pt = none) (hr : Room 0 (A.deeper (envOfC "_law_reduced" (defScope t_law_reduced) s.heap.objs.size f cdv))) (hg : A.guards = some []) :
    Pss b (cxOf L2.CX0 P w K mg base ["top", "low", "one", "other", "by"] "_law_reduced" (defScope t_law_reduced) f cdv A outer s H E) (defBody t_law_reduced) (p_law_reduced) := by
  have nd := sc_law_reduced.nd
  exact (pss_cons' (ps_par' (i := 2) (j := 3) (pr_val (pv_callB call_abs cp_abs z_abs PyProof.Rows.boot_abs (pas_cons (pv_callTy cr_int cp_int z_int PyProof.Rows.boot_int (pas_cons (pv_var (i := 0)) pas_nil)) pas_nil))) (pr_val (pv_callB call_abs cp_abs z_abs PyProof.Rows.boot_abs (pas_cons (pv_callTy cr_int cp_int z_int PyProof.Rows.boot_int (pas_cons (pv_var (i := 1)) pas_nil)) pas_nil))) rfl nd)
    (pss_cons' (ps_while' (passes_of rfl) (pb_cmp (op_neD (u64 hr)) opp_ne (pv_var (i := 3)) pv_int rfl) (pss_one' (ps_par' (i := 2) (j := 3) (pr_val (pv_var (i := 3))) (pr_val (pv_bin op_mod opp_mod (pv_var (i := 2)) (pv_var (i := 3)))) rfl nd)))
    (pss_cons' (ps_set' (i := 4) (pr_val (pv_if (pb_cmp op_gt opp_gt (pv_var (i := 1)) pv_int rfl) (pv_var (i := 2)) (pv_bin op_sub opp_sub pv_int (pv_var (i := 2))))) nd)
    (pss_one' (ps_ret' (pr_val (pv_tup (pas_cons (pv_callTy cr_int cp_int z_int PyProof.Rows.boot_int (pas_cons (pv_bin op_fdivW opp_fdv (pv_var (i := 0)) (pv_var (i := 4))) pas_nil)) (pas_cons (pv_callTy cr_int cp_int z_int PyProof.Rows.boot_int (pas_cons (pv_bin op_fdivW opp_fdv (pv_var (i := 1)) (pv_var (i := 4))) pas_nil)) pas_nil)))))))))
abbrev t_law_some : Stmt := top 33
theorem sc_law_some : FnScope ["pot", "some", "amount", "left", "found", "lap"] ["pot", "some", "amount"] (defScope t_law_some) := ⟨rfl, rfl, rfl, by decide +kernel, rfl, by decide +kernel, by decide +kernel⟩
theorem d_law_some {f_law_take_ : Addr} {fd_law_take : FuncData} (C_law_take : Cal P w K mg base L2.CX0 1 "_law_take" f_law_take_ fd_law_take ["pot", "upto"] (spD K 1 f_law_take)) (z_len : mg "len" = none) (z_list : mg "list" = none) (z_range : mg "range" = none) (b : Bs) (cdv : Value) (A : Around) (outer : List Env) (s : Shared) (H : Hp) (E : XK) (hr : Room 1 (A.deeper (envOfC "_law_some" (defScope t_law_some) s.heap.objs.size f cdv))) (hg : A.guards = some []) :
    Pss b (cxOf L2.CX0 P w K mg base ["pot", "some", "amount", "left", "found", "lap"] "_law_some" (defScope t_law_some) f cdv A outer s H E) (defBody t_law_some) (p_law_some) := by
  have nd := sc_law_some.nd
  exact (pss_cons' (ps_par' (i := 3) (j := 4) (pr_own (po_callTy call_list_of co_list z_list PyProof.Rows.boot_list (pas_cons (pv_var (i := 1)) pas_nil))) (pr_own (po_lst pas_nil)) rfl nd)
    (pss_cons' (ps_for' (passes_of rfl) rfl (pim_range1 z_range (pv_var (i := 2))) (pg_name (i := 5) nd rfl (by first | exact .inl rfl | exact .inr rfl)) gd_name (pss_one' (ps_append (i := 4) (pm_popAt (i := 3) (pv_ofR (pr_funD (i := 0) C_law_take (fun _ => passN) hr hg (pas_cons (pv_callB cr_len cp_len z_len PySem.boot_len (pas_cons (pv_var (i := 3)) pas_nil)) pas_nil)))))))
    (pss_one' (ps_retV' (i := 4)))))
abbrev t_law_cells : Stmt := top 34
theorem sc_law_cells : FnScope ["script", "limit"] ["script", "limit"] (defScope t_law_cells) := ⟨rfl, rfl, rfl, by decide +kernel, rfl, by decide +kernel, by decide +kernel⟩
theorem d_law_cells (z_len : mg "len" = none) (z_list : mg "list" = none) (z_max : mg "max" = none) (z_min : mg "min" = none) (z_range : mg "range" = none) (b : Bs) (a : Addr) (ns : List Int) (cdv : Value) (A : Around) (outer : List Env) (s : Shared) (H : Hp) (E : XK) (hpt : b.pt = none) (hS : SqL K b.H0 a (ns.map V.int)) (hr : Room 0 (A.deeper (envOfC "_law_cells" (defScope t_law_cells) s.heap.objs.size f cdv))) (hg : A.guards = some []) :
    Pss b (cxOf L2.CX0 P w K mg base ["script", "limit"] "_law_cells" (defScope t_law_cells) f cdv A outer s H E) (defBody t_law_cells) (p_law_cells a ns) := by
  have nd := sc_law_cells.nd
  have hpa : b.pt ≠ some a := by rw [hpt]; simp
  exact (pss_one' (ps_ret' (pr_own (po_listRange1 z_list z_range (pv_callB (call_max2 rfl) cp_max2 z_max PyProof.Rows.boot_max (pas_cons pv_int (pas_cons (pv_callB (call_min2 rfl) cp_min2 z_min PyProof.Rows.boot_min (pas_cons (pv_var (i := 1)) (pas_cons (pv_knLen (i := 0) hS hpa z_len) pas_nil))) pas_nil)))))))
abbrev t_law_pot : Stmt := top 35
theorem sc_law_pot : FnScope ["script", "place", "cell", "own", "small"] ["script", "place"] (defScope t_law_pot) := ⟨rfl, rfl, rfl, by decide +kernel, rfl, by decide +kernel, by decide +kernel⟩
theorem d_law_pot (z_abs : mg "abs" = none) (z_int : mg "int" = none) (z_len : mg "len" = none) (z_sum : mg "sum" = none) (b : Bs) (a : Addr) (ns : List Int) (cdv : Value) (A : Around) (outer : List Env) (s : Shared) (H : Hp) (E : XK) (hpt : b.pt = none) (hS : SqL K b.H0 a (ns.map V.int)) (hr : Room 0 (A.deeper (envOfC "_law_pot" (defScope t_law_pot) s.heap.objs.size f cdv))) (hg : A.guards = some []) :
    Pss b (cxOf L2.CX0 P w K mg base ["script", "place", "cell", "own", "small"] "_law_pot" (defScope t_law_pot) f cdv A outer s H E) (defBody t_law_pot) (p_law_pot a ns) := by
  have nd := sc_law_pot.nd
  have hpa : b.pt ≠ some a := by rw [hpt]; simp
  exact (pss_cons' (ps_set' (i := 2) (pr_val (pv_if (pb_cmp op_lt opp_lt (pv_var (i := 1)) (pv_knLen (i := 0) hS hpa z_len) rfl) (pv_knIx (i := 0) hS hpa (pv_var (i := 1))) (pv_bin or_add opp_add (pv_bin or_add opp_add (pv_bin op_mod opp_mod (pv_callB (cr_sum rfl) cp_sum z_sum PyProof.Rows.boot_sum (pas_cons (pv_knSl (i := 0) hS hpa pn_none (pn_some pv_int)) pas_nil)) pv_int) (pv_bin or_mul opp_mul pv_int (pv_var (i := 1)))) pv_int))) nd)
    (pss_cons' (ps_set' (i := 3) (pr_val (pv_bin or_mul opp_mul (pv_bin op_mod opp_mod (pv_callTy cr_int cp_int z_int PyProof.Rows.boot_int (pas_cons (pv_callB call_abs cp_abs z_abs PyProof.Rows.boot_abs (pas_cons (pv_var (i := 2)) pas_nil)) pas_nil)) (pv_bin or_powB opp_powB (pv_bin op_pow opp_pow pv_int pv_int) pv_int)) (pv_callTy cr_int cp_int z_int PyProof.Rows.boot_int (pas_cons (pv_cmp op_ge opp_ge (pv_callB call_abs cp_abs z_abs PyProof.Rows.boot_abs (pas_cons (pv_var (i := 2)) pas_nil)) (pv_bin op_pow opp_pow pv_int pv_int) rfl) pas_nil)))) nd)
    (pss_cons' (ps_set' (i := 4) (pr_val (pv_bin op_mod opp_mod (pv_callTy cr_int cp_int z_int PyProof.Rows.boot_int (pas_cons (pv_var (i := 2)) pas_nil)) pv_int)) nd)
    (pss_one' (ps_ret' (pr_own (po_lst (pas_cons (pv_var (i := 3)) (pas_cons (pv_bin op_mod opp_mod (pv_callTy cr_int cp_int z_int PyProof.Rows.boot_int (pas_cons (pv_bin or_add opp_add (pv_bin or_add opp_add (pv_bin or_mul opp_mul (pv_var (i := 4)) pv_int) (pv_bin or_mul opp_mul (pv_bin or_mul opp_mul pv_int (pv_var (i := 1))) (pv_var (i := 1)))) pv_int) pas_nil)) pv_int) (pas_cons pv_int pas_nil))))))))))
abbrev t_law_base : Stmt := top 36
theorem sc_law_base : FnScope ["numbers", "left", "found", "lap", "one", "hits", "other", "both", "its"] ["numbers"] (defScope t_law_base) := ⟨rfl, rfl, rfl, by decide +kernel, rfl, by decide +kernel, by decide +kernel⟩
theorem d_law_base {f_law_common_ : Addr} {fd_law_common : FuncData} (C_law_common : Cal P w K mg base L2.CX0 1 "_law_common" f_law_common_ fd_law_common ["one", "other"] (spP K 2 f_law_common)) (z_int : mg "int" = none) (z_range : mg "range" = none) (z_sorted : mg "sorted" = none) (z_tuple : mg "tuple" = none) (b : Bs) (cdv : Value) (A : Around) (outer : List Env) (s : Shared) (H : Hp) (E : XK) (hpt : b.pt = none) (hr : Room 1 (A.deeper (envOfC "_law_base" (defScope t_law_base) s.heap.objs.size f cdv))) (hg : A.guards = some []) :
    Pss b (cxOf L2.CX0 P w K mg base ["numbers", "left", "found", "lap", "one", "hits", "other", "both", "its"] "_law_base" (defScope t_law_base) f cdv A outer s H E) (defBody t_law_base) (p_law_base) := by
  have nd := sc_law_base.nd
  exact (pss_cons' (ps_par' (i := 1) (j := 2) (pr_own (po_lc (own := [("one", 4)]) rfl nd (pit_seq (pv_var (i := 0))) (blkOk_by (N := ["numbers", "left", "found", "lap", "one", "hits", "other", "both", "its"]) (sc := defScope t_law_base) (own := [("one", 4)]) (by decide +kernel)) (fun _ _ _ _ _ => (pg_name (i := 4) nd rfl (by first | exact .inl rfl | exact .inr rfl))) gd_name (tin_name (by decide)) (fun _ _ _ _ _ => pbs_nil) (fun _ _ _ _ _ => (pv_callTy cr_int cp_int z_int PyProof.Rows.boot_int (pas_cons (pv_var (i := 4)) pas_nil))))) (pr_own (po_lst pas_nil)) rfl nd)
    (pss_cons' (ps_for' (passes_of rfl) rfl (pim_range1 z_range pv_int) (pg_name (i := 3) nd rfl (by first | exact .inl rfl | exact .inr rfl)) gd_name (pss_cons' (ps_if' (pb_cmp (op_eqD (u64 hr)) opp_eq (pv_var (i := 1)) (pv_ofR (pr_own (po_lst pas_nil))) rfl) (pss_one' ps_break') pss_nil')
    (pss_cons' (ps_asg' (pg_tup rfl (pgs_cons (pg_name (i := 4) nd rfl (by first | exact .inl rfl | exact .inr rfl)) (pgs_cons (pg_name (i := 1) nd rfl (by first | exact .inl rfl | exact .inr rfl)) pgs_nil))) (gd_tup (gds_cons gd_name (gds_cons gd_name gds_nil))) (pm_tup (pms_cons (pm_res (pr_val (pv_ix (pv_var (i := 1)) pv_int))) (pms_cons (pm_res (pr_own (po_slice (pv_var (i := 1)) (pn_some pv_int) pn_none))) pms_nil))))
    (pss_cons' (ps_setLc' (i := 5) (own := [("other", 6)]) rfl nd (pit_seq (pv_var (i := 2))) (blkOk_by (N := ["numbers", "left", "found", "lap", "one", "hits", "other", "both", "its"]) (sc := defScope t_law_base) (own := [("other", 6)]) (by decide +kernel)) (fun _ _ _ _ _ => (pg_name (i := 6) nd rfl (by first | exact .inl rfl | exact .inr rfl))) gd_name (tin_name (by decide)) (fun _ _ _ _ _ => (pbs_one (pb_cmp op_gt opp_gt (pv_ofR (pr_fun C_law_common (fun _ => passN) hr hg (pas_cons (pv_var (i := 4)) (pas_cons (pv_var (i := 6)) pas_nil)))) pv_int rfl))) (fun _ _ _ _ _ => (pv_var (i := 6))))
    (pss_one' (ps_if' (PBw.pb (pbw_and (pb_cmp op_gt opp_gt (pv_var (i := 4)) pv_int rfl) (pbw_and1 (pb_cmp (op_eqD (u64 hr)) opp_eq (pv_var (i := 5)) (pv_ofR (pr_own (po_lst pas_nil))) rfl)))) (pss_one' (ps_append (i := 2) (pm_var (i := 4)))) (pss_one' (ps_if' (pb_cmp op_gt opp_gt (pv_var (i := 4)) pv_int rfl) (pss_cons' (ps_set' (i := 6) (pr_val (pv_ix (pv_var (i := 5)) (pv_neg pv_int))) nd)
    (pss_cons' (ps_set' (i := 7) (pr_fun C_law_common (fun _ => passN) hr hg (pas_cons (pv_var (i := 4)) (pas_cons (pv_var (i := 6)) pas_nil))) nd)
    (pss_cons' (ps_setLc' (i := 2) (own := [("its", 8)]) rfl nd (pit_seq (pv_var (i := 2))) (blkOk_by (N := ["numbers", "left", "found", "lap", "one", "hits", "other", "both", "its"]) (sc := defScope t_law_base) (own := [("its", 8)]) (by decide +kernel)) (fun _ _ _ _ _ => (pg_name (i := 8) nd rfl (by first | exact .inl rfl | exact .inr rfl))) gd_name (tin_name (by decide)) (fun _ _ _ _ _ => (pbs_one (pb_cmp (op_neD (u64 hr)) opp_ne (pv_var (i := 8)) (pv_var (i := 6)) rfl))) (fun _ _ _ _ _ => (pv_var (i := 8))))
    (pss_one' (ps_set' (i := 1) (pr_own (po_cat (pv_ofR (pr_own (po_lst (pas_cons (pv_var (i := 7)) (pas_cons (pv_bin op_fdivW opp_fdv (pv_var (i := 4)) (pv_var (i := 7))) (pas_cons (pv_bin op_fdivW opp_fdv (pv_var (i := 6)) (pv_var (i := 7))) pas_nil)))))) (pv_var (i := 1)))) nd))))) pss_nil'))))))))
    (pss_one' (ps_ret' (pr_val (pv_callTy call_tuple_of cp_tuple z_tuple PyProof.Rows.boot_tuple (pas_cons (pv_ofR (pr_own (po_callB cr_sortedI co_sortI z_sorted PyProof.Rows.boot_sorted (pas_cons (pv_var (i := 2)) pas_nil)))) pas_nil)))))))
abbrev t_law_exponents : Stmt := top 37
theorem sc_law_exponents : FnScope ["base", "number", "found", "left", "part", "often", "lap"] ["base", "number"] (defScope t_law_exponents) := ⟨rfl, rfl, rfl, by decide +kernel, rfl, by decide +kernel, by decide +kernel⟩
theorem d_law_exponents (z_int : mg "int" = none) (z_range : mg "range" = none) (b : Bs) (cdv : Value) (A : Around) (outer : List Env) (s : Shared) (H : Hp) (E : XK) (hpt : b.pt = none) (hr : Room 0 (A.deeper (envOfC "_law_exponents" (defScope t_law_exponents) s.heap.objs.size f cdv))) (hg : A.guards = some []) :
    Pss b (cxOf L2.CX0 P w K mg base ["base", "number", "found", "left", "part", "often", "lap"] "_law_exponents" (defScope t_law_exponents) f cdv A outer s H E) (defBody t_law_exponents) (p_law_exponents) := by
  have nd := sc_law_exponents.nd
  exact (pss_cons' (ps_par' (i := 2) (j := 3) (pr_own (po_lst pas_nil)) (pr_val (pv_callTy cr_int cp_int z_int PyProof.Rows.boot_int (pas_cons (pv_var (i := 1)) pas_nil))) rfl nd)
    (pss_cons' (ps_for' (passes_of rfl) rfl (pim_seq (pm_var (i := 0))) (pg_name (i := 4) nd rfl (by first | exact .inl rfl | exact .inr rfl)) gd_name (pss_cons' (ps_set' (i := 5) (pr_val pv_int) nd)
    (pss_cons' (ps_for' (passes_of rfl) rfl (pim_range1 z_range pv_int) (pg_name (i := 6) nd rfl (by first | exact .inl rfl | exact .inr rfl)) gd_name (pss_one' (ps_if' (pb_cmp (op_eqD (u64 hr)) opp_eq (pv_bin op_mod opp_mod (pv_var (i := 3)) (pv_var (i := 4))) pv_int rfl) (pss_one' (ps_par' (i := 5) (j := 3) (pr_val (pv_bin or_add opp_add (pv_var (i := 5)) pv_int)) (pr_val (pv_bin op_fdivW opp_fdv (pv_var (i := 3)) (pv_var (i := 4)))) rfl nd)) pss_nil')))
    (pss_one' (ps_append (i := 2) (pm_var (i := 5)))))))
    (pss_one' (ps_ret' (pr_val (pv_if (pb_cmp (op_eqD (u64 hr)) opp_eq (pv_var (i := 3)) pv_int rfl) (pv_var (i := 2)) pv_non))))))
abbrev t_law_lot : Stmt := top 38
theorem sc_law_lot : FnScope ["pot", "parts", "found", "lap", "top", "low", "turn"] ["pot"] (defScope t_law_lot) := ⟨rfl, rfl, rfl, by decide +kernel, rfl, by decide +kernel, by decide +kernel⟩
theorem d_law_lot {f_law_take_ : Addr} {fd_law_take : FuncData} {f_law_of_ : Addr} {fd_law_of : FuncData} {f_law_reduced_ : Addr} {fd_law_reduced : FuncData} (C_law_reduced : Cal P w K mg base L2.CX0 1 "_law_reduced" f_law_reduced_ fd_law_reduced ["top", "low"] (spP K 2 f_law_reduced)) (C_law_of : Cal P w K mg base L2.CX0 2 "_law_of" f_law_of_ fd_law_of ["pot", "some"] (spD K 1 f_law_of)) (C_law_take : Cal P w K mg base L2.CX0 1 "_law_take" f_law_take_ fd_law_take ["pot", "upto"] (spD K 1 f_law_take)) (z_range : mg "range" = none) (b : Bs) (cdv : Value) (A : Around) (outer : List Env) (s : Shared) (H : Hp) (E : XK) (hr : Room 2 (A.deeper (envOfC "_law_lot" (defScope t_law_lot) s.heap.objs.size f cdv))) (hg : A.guards = some []) :
    Pss b (cxOf L2.CX0 P w K mg base ["pot", "parts", "found", "lap", "top", "low", "turn"] "_law_lot" (defScope t_law_lot) f cdv A outer s H E) (defBody t_law_lot) (p_law_lot) := by
  have nd := sc_law_lot.nd
  exact (pss_cons' (ps_set' (i := 1) (pr_own (po_lst (pas_cons pv_int (pas_cons pv_int (pas_cons pv_int (pas_cons pv_int (pas_cons pv_int (pas_cons pv_int (pas_cons pv_int (pas_cons pv_int (pas_cons pv_int (pas_cons pv_int (pas_cons pv_int (pas_cons pv_int pas_nil)))))))))))))) nd)
    (pss_cons' (ps_set' (i := 2) (pr_own (po_lst pas_nil)) nd)
    (pss_cons' (ps_for' (passes_of rfl) rfl (pim_range1 z_range (pv_ofR (pr_funD (i := 0) C_law_take (fun _ => passN) hr hg (pas_cons pv_int pas_nil)))) (pg_name (i := 3) nd rfl (by first | exact .inl rfl | exact .inr rfl)) gd_name (pss_cons' (ps_asg' (pg_tup rfl (pgs_cons (pg_name (i := 4) nd rfl (by first | exact .inl rfl | exact .inr rfl)) (pgs_cons (pg_name (i := 5) nd rfl (by first | exact .inl rfl | exact .inr rfl)) pgs_nil))) (gd_tup (gds_cons gd_name (gds_cons gd_name gds_nil))) (pm_res (pr_val (pv_tup (pas_cons pv_int (pas_cons pv_int pas_nil))))))
    (pss_cons' (ps_for' (passes_of rfl) rfl (pim_range1 z_range (pv_ofR (pr_funD (i := 0) C_law_take (fun _ => passN) hr hg (pas_cons pv_int pas_nil)))) (pg_name (i := 6) nd rfl (by first | exact .inl rfl | exact .inr rfl)) gd_name (pss_one' (ps_set' (i := 4) (pr_val (pv_bin or_mul opp_mul (pv_var (i := 4)) (pv_ofR (pr_funD (i := 0) C_law_of (fun _ => passN) hr hg (pas_cons (pv_var (i := 1)) pas_nil))))) nd)))
    (pss_cons' (ps_for' (passes_of rfl) rfl (pim_range1 z_range (pv_ofR (pr_funD (i := 0) C_law_take (fun _ => passN) hr hg (pas_cons pv_int pas_nil)))) (pg_name (i := 6) nd rfl (by first | exact .inl rfl | exact .inr rfl)) gd_name (pss_one' (ps_set' (i := 5) (pr_val (pv_bin or_mul opp_mul (pv_var (i := 5)) (pv_ofR (pr_funD (i := 0) C_law_of (fun _ => passN) hr hg (pas_cons (pv_var (i := 1)) pas_nil))))) nd)))
    (pss_one' (ps_append (i := 2) (pm_res (pr_fun C_law_reduced (fun _ => passN) hr hg (pas_cons (pv_var (i := 4)) (pas_cons (pv_var (i := 5)) pas_nil))))))))))
    (pss_one' (ps_retV' (i := 2))))))
abbrev t_law_are_strings_right : Stmt := top 39
theorem sc_law_are_strings_right : FnScope ["pot", "one", "text", "odd", "value"] ["pot"] (defScope t_law_are_strings_right) := ⟨rfl, rfl, rfl, by decide +kernel, rfl, by decide +kernel, by decide +kernel⟩
theorem d_law_are_strings_right {f_law_reduced_ : Addr} {fd_law_reduced : FuncData} {f_law_take_ : Addr} {fd_law_take : FuncData} {f_law_of_ : Addr} {fd_law_of : FuncData} {f_read_fraction_ : Addr} {fd_read_fraction : FuncData} {f_fraction_text_ : Addr} {fd_fraction_text : FuncData} (C_fraction_text : Cal P w K mg base L2.CX0 3 "fraction_text" f_fraction_text_ fd_fraction_text ["one"] (spP K 1 f_fraction_text)) (C_read_fraction : Cal P w K mg base L2.CX0 3 "read_fraction" f_read_fraction_ fd_read_fraction ["text"] (spP K 1 f_read_fraction)) (C_law_of : Cal P w K mg base L2.CX0 2 "_law_of" f_law_of_ fd_law_of ["pot", "some"] (spD K 1 f_law_of)) (C_law_take : Cal P w K mg base L2.CX0 1 "_law_take" f_law_take_ fd_law_take ["pot", "upto"] (spD K 1 f_law_take)) (C_law_reduced : Cal P w K mg base L2.CX0 1 "_law_reduced" f_law_reduced_ fd_law_reduced ["top", "low"] (spP K 2 f_law_reduced)) (z_int : mg "int" = none) (z_str : mg "str" = none) (b : Bs) (cdv : Value) (A : Around) (outer : List Env) (s : Shared) (H : Hp) (E : XK) (hr : Room 3 (A.deeper (envOfC "_law_are_strings_right" (defScope t_law_are_strings_right) s.heap.objs.size f cdv))) (hg : A.guards = some []) :
    Pss b (cxOf L2.CX0 P w K mg base ["pot", "one", "text", "odd", "value"] "_law_are_strings_right" (defScope t_law_are_strings_right) f cdv A outer s H E) (defBody t_law_are_strings_right) (p_law_are_strings_right) := by
  have nd := sc_law_are_strings_right.nd
  exact (pss_cons' (ps_set' (i := 1) (pr_fun C_law_reduced (fun _ => passN) hr hg (pas_cons (pv_bin op_sub opp_sub (pv_callTy cr_int cp_int z_int PyProof.Rows.boot_int (pas_cons (pv_ofR (pr_funD (i := 0) C_law_take (fun _ => passN) hr hg (pas_cons pv_int pas_nil))) pas_nil)) pv_int) (pas_cons (pv_callTy cr_int cp_int z_int PyProof.Rows.boot_int (pas_cons (pv_bin or_add opp_add pv_int (pv_ofR (pr_funD (i := 0) C_law_take (fun _ => passN) hr hg (pas_cons pv_int pas_nil)))) pas_nil)) pas_nil))) nd)
    (pss_cons' (ps_set' (i := 1) (pr_funD (i := 0) C_law_of (fun _ => passN) hr hg (pas_cons (pv_ofR (pr_own (po_lst (pas_cons (pv_var (i := 1)) (pas_cons (pv_tup (pas_cons (pv_bin or_mul opp_mul (pv_ix (pv_var (i := 1)) pv_int) (pv_bin op_pow opp_pow pv_int pv_int)) (pas_cons pv_int pas_nil))) (pas_cons (pv_tup (pas_cons (pv_bin or_add opp_add (pv_bin or_mul opp_mul pv_int (pv_bin op_pow opp_pow pv_int pv_int)) pv_int) (pas_cons (pv_bin or_mul opp_mul (pv_bin or_mul opp_mul (pv_ix (pv_var (i := 1)) pv_int) pv_int) (pv_bin op_pow opp_pow pv_int pv_int)) pas_nil))) pas_nil)))))) pas_nil)) nd)
    (pss_cons' (ps_set' (i := 1) (pr_fun C_law_reduced (fun _ => passN) hr hg (pas_cons (pv_ix (pv_var (i := 1)) pv_int) (pas_cons (pv_ix (pv_var (i := 1)) pv_int) pas_nil))) nd)
    (pss_cons' (ps_set' (i := 2) (pr_val (pv_bin or_add opp_add (pv_callTy cr_str cp_str z_str PyProof.Rows.boot_str (pas_cons (pv_ix (pv_var (i := 1)) pv_int) pas_nil)) (pv_if (pb_cmp op_gt opp_gt (pv_ix (pv_var (i := 1)) pv_int) pv_int rfl) (pv_bin or_add opp_add pv_str (pv_callTy cr_str cp_str z_str PyProof.Rows.boot_str (pas_cons (pv_ix (pv_var (i := 1)) pv_int) pas_nil))) pv_str))) nd)
    (pss_cons' (ps_if' (PBw.pb (pbw_or (pb_cmp op_ne opp_neS (pv_ofR (pr_fun C_fraction_text (fun _ => passN) hr hg (pas_cons (pv_var (i := 1)) pas_nil))) (pv_var (i := 2)) rfl) (pbw_or1 (pb_cmp (op_neD (u64 hr)) opp_ne (pv_ofR (pr_fun C_read_fraction (fun _ => passN) hr hg (pas_cons (pv_var (i := 2)) pas_nil))) (pv_var (i := 1)) rfl)))) (pss_one' (ps_ret' (pr_val pv_bl))) pss_nil')
    (pss_cons' (ps_set' (i := 3) (pr_own (po_lst (pas_cons pv_str (pas_cons pv_str (pas_cons pv_str (pas_cons pv_str (pas_cons pv_str (pas_cons pv_str (pas_cons pv_str (pas_cons pv_str (pas_cons pv_str (pas_cons pv_str (pas_cons pv_str (pas_cons pv_str (pas_cons pv_str (pas_cons pv_str (pas_cons pv_str (pas_cons pv_str pas_nil)))))))))))))))))) nd)
    (pss_cons' (ps_set' (i := 3) (pr_own (po_cat (pv_var (i := 3)) (pv_ofR (pr_own (po_lst (pas_cons pv_str (pas_cons pv_str (pas_cons pv_str (pas_cons pv_str (pas_cons (pv_bin or_repS opp_repS pv_str pv_int) (pas_cons (pv_bin or_add opp_add pv_str (pv_bin or_repS opp_repS pv_str pv_int)) (pas_cons pv_str pas_nil)))))))))))) nd)
    (pss_cons' (ps_set' (i := 4) (pr_funD (i := 0) C_law_of (fun _ => passN) hr hg (pas_cons (pv_ofR (pr_own (po_cat (pv_var (i := 3)) (pv_ofR (pr_own (po_lst (pas_cons pv_non (pas_cons pv_int (pas_cons (pv_tup (pas_cons pv_int (pas_cons pv_int pas_nil))) (pas_cons pv_bl pas_nil)))))))))) pas_nil)) nd)
    (pss_one' (ps_ret' (pr_val (pv_and (pv_cmp or_is opp_is (pv_ofR (pr_fun C_read_fraction (fun _ => passN) hr hg (pas_cons (pv_var (i := 4)) pas_nil))) pv_non rfl) (pv_one (pv_cmp (op_eqD (u64 hr)) opp_eq (pv_ofR (pr_fun C_read_fraction (fun _ => passN) hr hg (pas_cons (pv_bin or_repS opp_repS pv_str pv_int) pas_nil))) (pv_tup (pas_cons (pv_callTy cr_int cp_int z_int PyProof.Rows.boot_int (pas_cons (pv_bin or_repS opp_repS pv_str pv_int) pas_nil)) (pas_cons pv_int pas_nil))) rfl))))))))))))))
abbrev t_law_right : Stmt := top 40
theorem sc_law_right : FnScope ["pot", "some", "parts", "told", "due", "at", "one", "number", "top", "low", "rest", "part", "other", "more", "less"] ["pot"] (defScope t_law_right) := ⟨rfl, rfl, rfl, by decide +kernel, rfl, by decide +kernel, by decide +kernel⟩
theorem d_law_right {f_law_lot_ : Addr} {fd_law_lot : FuncData} {f_law_base_ : Addr} {fd_law_base : FuncData} {f_coprime_base_ : Addr} {fd_coprime_base : FuncData} {f_law_some_ : Addr} {fd_law_some : FuncData} {f_law_common_ : Addr} {fd_law_common : FuncData} {f_law_exponents_ : Addr} {fd_law_exponents : FuncData} {f_law_of_ : Addr} {fd_law_of : FuncData} {f_exponents_over_ : Addr} {fd_exponents_over : FuncData} (C_exponents_over : Cal P w K mg base L2.CX0 4 "exponents_over" f_exponents_over_ fd_exponents_over ["base", "number"] (spP K 2 f_exponents_over)) (C_law_of : Cal P w K mg base L2.CX0 2 "_law_of" f_law_of_ fd_law_of ["pot", "some"] (spD K 1 f_law_of)) (C_law_exponents : Cal P w K mg base L2.CX0 1 "_law_exponents" f_law_exponents_ fd_law_exponents ["base", "number"] (spP K 2 f_law_exponents)) (C_law_common : Cal P w K mg base L2.CX0 1 "_law_common" f_law_common_ fd_law_common ["one", "other"] (spP K 2 f_law_common)) (C_law_some : Cal P w K mg base L2.CX0 2 "_law_some" f_law_some_ fd_law_some ["pot", "some", "amount"] (spD K 2 f_law_some)) (C_coprime_base : Cal P w K mg base L2.CX0 5 "coprime_base" f_coprime_base_ fd_coprime_base ["numbers"] (spP K 1 f_coprime_base)) (C_law_base : Cal P w K mg base L2.CX0 2 "_law_base" f_law_base_ fd_law_base ["numbers"] (spP K 1 f_law_base)) (C_law_lot : Cal P w K mg base L2.CX0 3 "_law_lot" f_law_lot_ fd_law_lot ["pot"] (spD K 0 f_law_lot)) (z_any : mg "any" = none) (z_enumerate : mg "enumerate" = none) (z_int : mg "int" = none) (z_len : mg "len" = none) (z_list : mg "list" = none) (z_range : mg "range" = none) (z_repr : mg "repr" = none) (z_sum : mg "sum" = none) (z_tuple : mg "tuple" = none) (z_zip : mg "zip" = none) (kb_coprime_base : KBinds K fd_coprime_base ["numbers"] ["numbers"] g0 g0) (kb_exponents_over : KBinds K fd_exponents_over ["base", "number"] ["base", "number"] g0 g0) (b : Bs) (cdv : Value) (A : Around) (outer : List Env) (s : Shared) (H : Hp) (E : XK) (hr : Room 5 (A.deeper (envOfC "_law_right" (defScope t_law_right) s.heap.objs.size f cdv))) (hg : A.guards = some []) :
    Pss b (cxOf L2.CX0 P w K mg base ["pot", "some", "parts", "told", "due", "at", "one", "number", "top", "low", "rest", "part", "other", "more", "less"] "_law_right" (defScope t_law_right) f cdv A outer s H E) (defBody t_law_right) (p_law_right) := by
  have nd := sc_law_right.nd
  exact (pss_cons' (ps_set' (i := 1) (pr_funD (i := 0) C_law_lot (fun _ => passN) hr hg pas_nil) nd)
    (pss_cons' (ps_set' (i := 2) (pr_val (pv_callB (cr_sumL rfl) cp_sumL z_sum PyProof.Rows.boot_sum (pas_cons (pv_ofR (pr_own (po_lc (own := [("one", 6)]) rfl nd (pit_seq (pv_var (i := 1))) (blkOk_by (N := ["pot", "some", "parts", "told", "due", "at", "one", "number", "top", "low", "rest", "part", "other", "more", "less"]) (sc := defScope t_law_right) (own := [("one", 6)]) (by decide +kernel)) (fun _ _ _ _ _ => (pg_name (i := 6) nd rfl (by first | exact .inl rfl | exact .inr rfl))) gd_name (tin_name (by decide)) (fun _ _ _ _ _ => pbs_nil) (fun _ _ _ _ _ => (pv_ofR (pr_own (po_callTy call_list_of co_list z_list PyProof.Rows.boot_list (pas_cons (pv_var (i := 6)) pas_nil)))))))) (pas_cons (pv_ofR (pr_own (po_lst pas_nil))) pas_nil)))) nd)
    (pss_cons' (ps_asg' (pg_tup rfl (pgs_cons (pg_name (i := 3) nd rfl (by first | exact .inl rfl | exact .inr rfl)) (pgs_cons (pg_name (i := 4) nd rfl (by first | exact .inl rfl | exact .inr rfl)) pgs_nil))) (gd_tup (gds_cons gd_name (gds_cons gd_name gds_nil))) (pm_res (pr_val (pv_tup (pas_cons (pv_ofR (pr_funK C_coprime_base kb_coprime_base (fun _ => passN) hr hg (pks_cons (pv_callTy call_tuple_of cp_tuple z_tuple PyProof.Rows.boot_tuple (pas_cons (pv_var (i := 1)) pas_nil)) pks_nil))) (pas_cons (pv_ofR (pr_fun C_law_base (fun _ => passN) hr hg (pas_cons (pv_var (i := 2)) pas_nil))) pas_nil))))))
    (pss_cons' (ps_if' (PBw.pb (pbw_or (pb_cmp op_ne opp_neS (pv_callB (cr_repr hr hg) cp_repr z_repr PyProof.Rows.boot_repr (pas_cons (pv_var (i := 3)) pas_nil)) (pv_callB (cr_repr hr hg) cp_repr z_repr PyProof.Rows.boot_repr (pas_cons (pv_var (i := 4)) pas_nil)) rfl) (pbw_or1 (pb_cmp (op_neD (u64 hr)) opp_ne (pv_ofR (pr_fun C_coprime_base (fun _ => passN) hr hg (pas_cons (pv_callTy call_tuple_of cp_tuple z_tuple PyProof.Rows.boot_tuple (pas_cons (pv_ofR (pr_funD (i := 0) C_law_some (fun _ => passN) hr hg (pas_cons (pv_var (i := 1)) (pas_cons (pv_callB cr_len cp_len z_len PySem.boot_len (pas_cons (pv_var (i := 1)) pas_nil)) pas_nil)))) pas_nil)) pas_nil))) (pv_var (i := 3)) rfl)))) (pss_one' (ps_ret' (pr_val pv_bl))) pss_nil')
    (pss_cons' (ps_for' (passes_of rfl) rfl (pim_of (pit_enum z_enumerate (pv_var (i := 3)))) (pg_tup rfl (pgs_cons (pg_name (i := 5) nd rfl (by first | exact .inl rfl | exact .inr rfl)) (pgs_cons (pg_name (i := 6) nd rfl (by first | exact .inl rfl | exact .inr rfl)) pgs_nil))) (gd_tup (gds_cons gd_name (gds_cons gd_name gds_nil))) (pss_one' (ps_if' (pb_val (pv_callB (cr_any rfl) cp_any z_any PyProof.Rows.boot_any (pas_cons (pv_ofR (pr_own (po_lc (own := [("other", 12)]) rfl nd (pit_seq (pv_slice (pv_var (i := 3)) (pn_some (pv_bin or_add opp_add (pv_var (i := 5)) pv_int)) pn_none)) (blkOk_by (N := ["pot", "some", "parts", "told", "due", "at", "one", "number", "top", "low", "rest", "part", "other", "more", "less"]) (sc := defScope t_law_right) (own := [("other", 12)]) (by decide +kernel)) (fun _ _ _ _ _ => (pg_name (i := 12) nd rfl (by first | exact .inl rfl | exact .inr rfl))) gd_name (tin_name (by decide)) (fun _ _ _ _ _ => pbs_nil) (fun _ _ _ _ _ => (pv_cmp op_gt opp_gt (pv_ofR (pr_fun C_law_common (fun _ => passN) hr hg (pas_cons (pv_var (i := 6)) (pas_cons (pv_var (i := 12)) pas_nil)))) pv_int rfl))))) pas_nil))) (pss_one' (ps_ret' (pr_val pv_bl))) pss_nil')))
    (pss_cons' (ps_if' (pb_val (pv_callB (cr_any rfl) cp_any z_any PyProof.Rows.boot_any (pas_cons (pv_ofR (pr_own (po_lc (own := [("part", 11)]) rfl nd (pit_seq (pv_var (i := 2))) (blkOk_by (N := ["pot", "some", "parts", "told", "due", "at", "one", "number", "top", "low", "rest", "part", "other", "more", "less"]) (sc := defScope t_law_right) (own := [("part", 11)]) (by decide +kernel)) (fun _ _ _ _ _ => (pg_name (i := 11) nd rfl (by first | exact .inl rfl | exact .inr rfl))) gd_name (tin_name (by decide)) (fun _ _ _ _ _ => pbs_nil) (fun _ _ _ _ _ => (pv_cmp or_is opp_is (pv_ofR (pr_fun C_law_exponents (fun _ => passN) hr hg (pas_cons (pv_var (i := 3)) (pas_cons (pv_var (i := 11)) pas_nil)))) pv_non rfl))))) pas_nil))) (pss_one' (ps_ret' (pr_val pv_bl))) pss_nil')
    (pss_cons' (ps_set' (i := 7) (pr_funD (i := 0) C_law_of (fun _ => passN) hr hg (pas_cons (pv_ofR (pr_own (po_cat (pv_var (i := 1)) (pv_ofR (pr_own (po_lst (pas_cons (pv_tup (pas_cons pv_int (pas_cons pv_int pas_nil))) (pas_cons (pv_tup (pas_cons pv_int (pas_cons pv_int pas_nil))) (pas_cons (pv_tup (pas_cons pv_int (pas_cons pv_int pas_nil))) pas_nil))))))))) pas_nil)) nd)
    (pss_cons' (ps_par' (i := 8) (j := 9) (pr_fun C_law_exponents (fun _ => passN) hr hg (pas_cons (pv_var (i := 3)) (pas_cons (pv_ix (pv_var (i := 7)) pv_int) pas_nil))) (pr_fun C_law_exponents (fun _ => passN) hr hg (pas_cons (pv_var (i := 3)) (pas_cons (pv_ix (pv_var (i := 7)) pv_int) pas_nil))) rfl nd)
    (pss_cons' (ps_set' (i := 4) (pr_val (pv_if (pb_cmp (or_in (u65 hr)) opp_in pv_non (pv_tup (pas_cons (pv_var (i := 8)) (pas_cons (pv_var (i := 9)) pas_nil))) rfl) pv_non (pv_callTy call_tuple_of cp_tuple z_tuple PyProof.Rows.boot_tuple (pas_cons (pv_ofR (pr_own (po_lc (own := [("more", 13), ("less", 14)]) rfl nd (pit_zip z_zip (pv_var (i := 8)) (pv_var (i := 9))) (blkOk_by (N := ["pot", "some", "parts", "told", "due", "at", "one", "number", "top", "low", "rest", "part", "other", "more", "less"]) (sc := defScope t_law_right) (own := [("more", 13), ("less", 14)]) (by decide +kernel)) (fun _ _ _ _ _ => (pg_tup rfl (pgs_cons (pg_name (i := 13) nd rfl (by first | exact .inl rfl | exact .inr rfl)) (pgs_cons (pg_name (i := 14) nd rfl (by first | exact .inl rfl | exact .inr rfl)) pgs_nil)))) (gd_tup (gds_cons gd_name (gds_cons gd_name gds_nil))) (tin_tup (tins_cons (tin_name (by decide)) (tins_cons (tin_name (by decide)) tins_nil))) (fun _ _ _ _ _ => pbs_nil) (fun _ _ _ _ _ => (pv_callTy cr_int cp_int z_int PyProof.Rows.boot_int (pas_cons (pv_bin op_sub opp_sub (pv_var (i := 13)) (pv_var (i := 14))) pas_nil)))))) pas_nil)))) nd)
    (pss_cons' (ps_if' (pb_cmp op_ne opp_neS (pv_callB (cr_repr hr hg) cp_repr z_repr PyProof.Rows.boot_repr (pas_cons (pv_ofR (pr_funK C_exponents_over kb_exponents_over (fun _ => passN) hr hg (pks_cons (pv_var (i := 3)) (pks_cons (pv_var (i := 7)) pks_nil)))) pas_nil)) (pv_callB (cr_repr hr hg) cp_repr z_repr PyProof.Rows.boot_repr (pas_cons (pv_var (i := 4)) pas_nil)) rfl) (pss_one' (ps_ret' (pr_val pv_bl))) pss_nil')
    (pss_cons' (ps_for' (passes_of rfl) rfl (pim_range1 z_range (pv_callB cr_len cp_len z_len PySem.boot_len (pas_cons (pv_var (i := 3)) pas_nil))) (pg_name (i := 5) nd rfl (by first | exact .inl rfl | exact .inr rfl)) gd_name (pss_cons' (ps_set' (i := 10) (pr_val (pv_bin or_add opp_add (pv_slice (pv_var (i := 3)) pn_none (pn_some (pv_var (i := 5)))) (pv_slice (pv_var (i := 3)) (pn_some (pv_bin or_add opp_add (pv_var (i := 5)) pv_int)) pn_none))) nd)
    (pss_one' (ps_if' (pb_not (pb_val (pv_callB (cr_any rfl) cp_any z_any PyProof.Rows.boot_any (pas_cons (pv_ofR (pr_own (po_lc (own := [("one", 6)]) rfl nd (pit_seq (pv_var (i := 1))) (blkOk_by (N := ["pot", "some", "parts", "told", "due", "at", "one", "number", "top", "low", "rest", "part", "other", "more", "less"]) (sc := defScope t_law_right) (own := [("one", 6)]) (by decide +kernel)) (fun _ _ _ _ _ => (pg_name (i := 6) nd rfl (by first | exact .inl rfl | exact .inr rfl))) gd_name (tin_name (by decide)) (fun _ _ _ _ _ => pbs_nil) (fun _ _ _ _ _ => (pv_cmp or_is opp_is (pv_ofR (pr_fun C_exponents_over (fun _ => passN) hr hg (pas_cons (pv_var (i := 10)) (pas_cons (pv_var (i := 6)) pas_nil)))) pv_non rfl))))) pas_nil)))) (pss_one' (ps_ret' (pr_val pv_bl))) pss_nil'))))
    (pss_one' (ps_ret' (pr_val pv_bl))))))))))))))
abbrev t_law : Stmt := top 41
theorem sc_law : FnScope ["script", "place", "pot", "lap"] ["script"] (defScope t_law) := ⟨rfl, rfl, rfl, by decide +kernel, rfl, by decide +kernel, by decide +kernel⟩
theorem d_law {f_law_cells_ : Addr} {fd_law_cells : FuncData} {f_law_pot_ : Addr} {fd_law_pot : FuncData} {f_law_are_strings_right_ : Addr} {fd_law_are_strings_right : FuncData} {f_law_right_ : Addr} {fd_law_right : FuncData} (C_law_right : Cal P w K mg base L2.CX0 6 "_law_right" f_law_right_ fd_law_right ["pot"] (spD K 0 f_law_right)) (C_law_are_strings_right : Cal P w K mg base L2.CX0 4 "_law_are_strings_right" f_law_are_strings_right_ fd_law_are_strings_right ["pot"] (spD K 0 f_law_are_strings_right)) (C_law_pot : Cal P w K mg base L2.CX0 1 "_law_pot" f_law_pot_ fd_law_pot ["script", "place"] (spS K 1 f_law_pot)) (C_law_cells : Cal P w K mg base L2.CX0 1 "_law_cells" f_law_cells_ fd_law_cells ["script", "limit"] (spS K 1 f_law_cells)) (z_all : mg "all" = none) (z_range : mg "range" = none) (b : Bs) (a : Addr) (ns : List Int) (cdv : Value) (A : Around) (outer : List Env) (s : Shared) (H : Hp) (E : XK) (hpt : b.pt = none) (hS : SqL K b.H0 a (ns.map V.int)) (hr : Room 6 (A.deeper (envOfC "law" (defScope t_law) s.heap.objs.size f cdv))) (hg : A.guards = some []) :
    Pss b (cxOf L2.CX0 P w K mg base ["script", "place", "pot", "lap"] "law" (defScope t_law) f cdv A outer s H E) (defBody t_law) (p_law a ns) := by
  have nd := sc_law.nd
  have hpa : b.pt ≠ some a := by rw [hpt]; simp
  exact (pss_cons' (ps_for' (passes_of rfl) rfl (pim_seq (pm_res (pr_funS (i := 0) C_law_cells hS hpa (fun _ => passN) hr hg (pas_cons pv_int pas_nil)))) (pg_name (i := 1) nd rfl (by first | exact .inl rfl | exact .inr rfl)) gd_name (pss_mk (i := 2) hpt (pr_funS (i := 0) C_law_pot hS hpa (fun _ => passN) hr hg (pas_cons (pv_var (i := 1)) pas_nil)) (fun pt => (pss_one' (ps_if' (PBw.pb (pbw_or (pb_not (pb_val (pv_callB (cr_all rfl) cp_all z_all PyProof.Rows.boot_all (pas_cons (pv_ofR (pr_own (po_lc (own := [("lap", 3)]) rfl nd (pit_range1 z_range pv_int) (blkOk_by (N := ["script", "place", "pot", "lap"]) (sc := defScope t_law) (own := [("lap", 3)]) (by decide +kernel)) (fun _ _ _ _ _ => (pg_name (i := 3) nd rfl (by first | exact .inl rfl | exact .inr rfl))) gd_name (tin_name (by decide)) (fun _ _ _ _ _ => pbs_nil) (fun _ _ _ _ _ => (pv_ofR (pr_funD (i := 2) C_law_right (fun _ => passN) hr hg pas_nil)))))) pas_nil)))) (pbw_or1 (pb_not (pb_val (pv_ofR (pr_funD (i := 2) C_law_are_strings_right (fun _ => passN) hr hg pas_nil))))))) (pss_one' (ps_ret' (pr_val pv_bl))) pss_nil'))) nd))
    (pss_one' (ps_ret' (pr_val pv_bl))))
end
end K20

set_option Elab.async false
set_option linter.all false
set_option maxRecDepth 100000
set_option maxHeartbeats 4000000
namespace K20
open PySem PySem.Spec PyProof.Rows L2 PL
open Classical
local macro_rules | `(tactic| trivial) => `(tactic| (repeat (first | (with_reducible first | refine st_bin ?_ | refine st_v0v ?_ | refine st_v0o ?_ | refine st_v1v ?_ | refine st_v1o ?_ | refine st_v2v ?_ | refine st_v2o ?_ | refine st_v3v ?_ | refine st_v3o ?_ | refine st_v4v ?_ | refine st_v4o ?_ | refine st_v5v ?_ | refine st_v5o ?_ | refine st_v6v ?_ | refine st_v6o ?_ | refine st_v7v ?_ | refine st_v7o ?_ | refine st_v8v ?_ | refine st_v8o ?_ | refine st_v9v ?_ | refine st_v9o ?_ | refine st_v10v ?_ | refine st_v10o ?_ | refine st_v11v ?_ | refine st_v11o ?_ | refine st_v12v ?_ | refine st_v12o ?_ | refine st_v13v ?_ | refine st_v13o ?_ | refine st_v14v ?_ | refine st_v14o ?_ | refine st_v15v ?_ | refine st_v15o ?_ | refine st_C ?_ | refine st_cons ?_ | refine st_nil ?_ | refine st_ca ?_ | refine st_bval ?_ | refine st_exb ?_ | refine st_exi ?_ | refine st_exs ?_ | refine st_exl ?_ | refine st_exil ?_ | refine st_exit ?_ | refine st_exiz ?_ | refine st_seq ?_ | refine st_iT ?_ | refine st_iF ?_ | refine st_k0 ?_ | refine st_k1 ?_ | refine st_k2 ?_ | refine st_k3 ?_ | refine st_z0 ?_ | refine st_z1 ?_ | refine st_z2 ?_ | refine st_z3 ?_ | refine st_z4 ?_ | refine st_z5 ?_ | refine st_z6 ?_ | refine st_z7 ?_ | refine st_z8 ?_ | refine st_z9 ?_ | refine st_z10 ?_ | refine st_z11 ?_ | refine st_z12 ?_ | refine st_z13 ?_ | refine st_z14 ?_ | refine st_z15 ?_ | refine st_z16 ?_ | refine st_z17 ?_ | refine st_z18 ?_ | refine st_z19 ?_ | refine st_z20 ?_ | refine st_z21 ?_ | refine st_z22 ?_ | refine st_z23 ?_ | refine st_z24 ?_ | refine st_ret ?_ | refine st_rV ?_ | refine st_rO ?_ | refine st_vR ?_ | refine st_call ?_ | refine st_set ?_ | refine st_if ?_ | refine st_lt ?_ | refine st_le ?_ | refine st_gt ?_ | refine st_ge ?_ | refine st_eqi ?_ | refine st_nei ?_ | refine st_eqs ?_ | refine st_nes ?_ | refine st_add ?_ | refine st_sub ?_ | refine st_is ?_ | refine st_isnot ?_ | refine st_ix0l ?_ | refine st_ix0t ?_ | refine st_ix1l ?_ | refine st_ix1t ?_ | refine st_ix2l ?_ | refine st_ix2t ?_ | refine st_len0l ?_ | refine st_len0t ?_ | refine st_len1l ?_ | refine st_len1t ?_ | refine st_len2l ?_ | refine st_len2t ?_ | refine st_len3l ?_ | refine st_len3t ?_ | refine st_len4l ?_ | refine st_len4t ?_ | refine st_lenl ?_ | refine st_lent ?_ | refine st_abs ?_ | refine st_inti ?_ | refine st_intb ?_ | refine st_tupl ?_ | refine st_tupt ?_ | refine st_listl ?_ | refine st_listt ?_ | refine st_strs ?_ | refine st_max ?_ | refine st_min ?_ | refine st_gcd ?_ | refine st_neg ?_ | refine st_tup ?_ | refine st_lst ?_ | refine st_not ?_ | refine st_and ?_ | refine st_or ?_ | refine st_pnot ?_ | refine st_pand ?_ | refine st_por ?_ | refine st_pif ?_ | refine st_chain ?_ | refine st_isi ?_ | refine st_m1 ?_ | refine st_next ?_ | refine st_break ?_ | refine st_cont ?_ | refine st_retN ?_ | refine st_r0v ?_ | refine st_r0o ?_ | refine st_m0v ?_ | refine st_m0o ?_ | refine st_app0 ?_ | refine st_ext0 ?_ | refine st_gown0 ?_ | refine st_gext0 ?_ | refine st_d0 ?_ | refine st_p00 ?_ | refine st_p10 ?_ | refine st_p20 ?_ | refine st_w00 ?_ | refine st_w20 ?_ | refine st_r1v ?_ | refine st_r1o ?_ | refine st_m1v ?_ | refine st_m1o ?_ | refine st_app1 ?_ | refine st_ext1 ?_ | refine st_gown1 ?_ | refine st_gext1 ?_ | refine st_d1 ?_ | refine st_p01 ?_ | refine st_p11 ?_ | refine st_p21 ?_ | refine st_w01 ?_ | refine st_w21 ?_ | refine st_r2v ?_ | refine st_r2o ?_ | refine st_m2v ?_ | refine st_m2o ?_ | refine st_app2 ?_ | refine st_ext2 ?_ | refine st_gown2 ?_ | refine st_gext2 ?_ | refine st_d2 ?_ | refine st_p02 ?_ | refine st_p12 ?_ | refine st_p22 ?_ | refine st_w02 ?_ | refine st_w22 ?_ | refine st_r3v ?_ | refine st_r3o ?_ | refine st_m3v ?_ | refine st_m3o ?_ | refine st_app3 ?_ | refine st_ext3 ?_ | refine st_gown3 ?_ | refine st_gext3 ?_ | refine st_r4v ?_ | refine st_r4o ?_ | refine st_m4v ?_ | refine st_m4o ?_ | refine st_app4 ?_ | refine st_ext4 ?_ | refine st_gown4 ?_ | refine st_gext4 ?_ | refine st_r5v ?_ | refine st_r5o ?_ | refine st_m5v ?_ | refine st_m5o ?_ | refine st_app5 ?_ | refine st_ext5 ?_ | refine st_gown5 ?_ | refine st_gext5 ?_ | refine st_r6v ?_ | refine st_r6o ?_ | refine st_m6v ?_ | refine st_m6o ?_ | refine st_app6 ?_ | refine st_ext6 ?_ | refine st_gown6 ?_ | refine st_gext6 ?_ | refine st_r7v ?_ | refine st_r7o ?_ | refine st_m7v ?_ | refine st_m7o ?_ | refine st_app7 ?_ | refine st_ext7 ?_ | refine st_gown7 ?_ | refine st_gext7 ?_ | refine st_r8v ?_ | refine st_r8o ?_ | refine st_m8v ?_ | refine st_m8o ?_ | refine st_app8 ?_ | refine st_ext8 ?_ | refine st_gown8 ?_ | refine st_gext8 ?_ | refine st_r9v ?_ | refine st_r9o ?_ | refine st_m9v ?_ | refine st_m9o ?_ | refine st_app9 ?_ | refine st_ext9 ?_ | refine st_gown9 ?_ | refine st_gext9 ?_ | refine st_r10v ?_ | refine st_r10o ?_ | refine st_m10v ?_ | refine st_m10o ?_ | refine st_app10 ?_ | refine st_ext10 ?_ | refine st_gown10 ?_ | refine st_gext10 ?_ | refine st_r11v ?_ | refine st_r11o ?_ | refine st_m11v ?_ | refine st_m11o ?_ | refine st_app11 ?_ | refine st_ext11 ?_ | refine st_gown11 ?_ | refine st_gext11 ?_ | refine st_r12v ?_ | refine st_r12o ?_ | refine st_m12v ?_ | refine st_m12o ?_ | refine st_app12 ?_ | refine st_ext12 ?_ | refine st_gown12 ?_ | refine st_gext12 ?_ | refine st_r13v ?_ | refine st_r13o ?_ | refine st_m13v ?_ | refine st_m13o ?_ | refine st_app13 ?_ | refine st_ext13 ?_ | refine st_gown13 ?_ | refine st_gext13 ?_ | refine st_r14v ?_ | refine st_r14o ?_ | refine st_m14v ?_ | refine st_m14o ?_ | refine st_app14 ?_ | refine st_ext14 ?_ | refine st_gown14 ?_ | refine st_gext14 ?_ | refine st_r15v ?_ | refine st_r15o ?_ | refine st_m15v ?_ | refine st_m15o ?_ | refine st_app15 ?_ | refine st_ext15 ?_ | refine st_gown15 ?_ | refine st_gext15 ?_ | refine st_par ?_ | refine st_asg ?_ | refine st_ex ?_ | refine st_mR ?_ | refine st_mtup ?_ | refine st_mnil ?_ | refine st_mcons ?_ | refine st_for ?_ | refine st_imseq ?_ | refine st_iseq ?_ | refine st_imof ?_ | refine st_imr1 ?_ | refine st_ir1 ?_ | refine st_imr2 ?_ | refine st_enu ?_ | refine st_enl ?_ | refine st_ent ?_ | refine st_zip ?_ | refine st_zl ?_ | refine st_zt ?_ | refine st_lc ?_ | refine st_lc2 ?_ | refine st_oca ?_ | refine st_cat ?_ | refine st_excat ?_ | refine st_sll ?_ | refine st_sl ?_ | refine st_rev ?_ | refine st_nno ?_ | refine st_nat ?_ | refine st_tname ?_ | refine st_tt2 ?_ | refine st_mod (by omega) ?_ | refine st_fdv (by omega) (by omega) ?_ | refine st_mull (by omega) (by omega) ?_ | refine st_mulr (by omega) (by omega) ?_ | refine st_pow (by decide) (by decide) (by decide) ?_ | refine e_is_integer ?_ | refine e_common ?_ | refine e_is_fraction ?_ | refine e_law_common (by omega) (by omega) (by omega) (by omega) ?_) | (simp only [keepR, lfr, lf, lfs, frz, frz1, Rv.sl, Rv.d, updE, wipeE, fill_cc, fill_cn, fill_nn, dn, lfs_nL, lf_expoD, isI_dn, lfs_frD, isT_int_none, isT_int_bool, isT_int_int, isT_int_str, isT_int_list, isT_int_tuple, isT_bool_none, isT_bool_bool, isT_bool_int, isT_bool_str, isT_bool_list, isT_bool_tuple, isT_str_none, isT_str_bool, isT_str_int, isT_str_str, isT_str_list, isT_str_tuple, isT_list_none, isT_list_bool, isT_list_int, isT_list_str, isT_list_list, isT_list_tuple, isT_tuple_none, isT_tuple_bool, isT_tuple_int, isT_tuple_str, isT_tuple_list, isT_tuple_tuple, List.set_cons_zero, List.set_cons_succ, List.map_cons, List.map_nil, List.cons_append, List.nil_append, List.append_nil, Nat.reduceAdd, Nat.reduceSub, Nat.zero_add, Bool.and_true, Bool.true_and, Bool.and_self, Bool.not_true, Bool.not_false, Bool.and_false, Bool.false_and, Bool.or_false, Bool.false_or, Bool.or_true, Bool.true_or, if_true, reduceIte, isN, Bool.false_eq_true, if_false, Int.cast_ofNat_Int, Int.natCast_zero, Int.natCast_one, true_and, decide_true, decide_false, eq_self]))))
theorem h_is_integer : ∀ (ds : List D) (Q : Rv → Prop), ds.length = 1 → f_is_integer ds Q → p_is_integer { nx := fun _ _ => Q (.val .none), rt := fun _ r => Q r } 0 (PL.fill ["value"] (ds.map Sl.val)) := by
  intro ds Q hl h
  match ds, h with
  | [d], h =>
    have h : Q (.val (.bool (isI d))) := h
    unfold p_is_integer
    cases d <;> trivial <;> exact h
theorem h_common : ∀ (ds : List D) (Q : Rv → Prop), ds.length = 2 → f_common ds Q → p_common { nx := fun _ _ => Q (.val .none), rt := fun _ r => Q r } 0 (PL.fill ["one", "other"] (ds.map Sl.val)) := by
  intro ds Q hl h
  match ds, h with
  | [.int a, .int c], h =>
    unfold p_common
    trivial
    exact h
theorem h_is_fraction : ∀ (ds : List D) (Q : Rv → Prop), ds.length = 1 → f_is_fraction ds Q → p_is_fraction { nx := fun _ _ => Q (.val .none), rt := fun _ r => Q r } 0 (PL.fill ["value", "part"] (ds.map Sl.val)) := by
  intro ds Q hl h
  match ds, h with
  | [.tuple [.int a, .int c]], h =>
    have h : Q (.val (.bool (decide (1 ≤ c) && decide (Nat.gcd a.natAbs c.natAbs = 1)))) := h
    unfold p_is_fraction
    trivial
    refine comp_all (fun d => .bool (isI d)) (fun d hd => ⟨_, rfl, fun R hR => ?_⟩) (line_le (by show 2 ≤ 100000; decide)) ?_
    · trivial
      exact hR
    refine ⟨[true, true], rfl, ?_⟩
    trivial
    rw [show ([true, true].all _root_.id) = true from rfl]
    trivial
    by_cases h1 : 1 ≤ c
    · rw [decide_eq_true h1] at h ⊢
      trivial

      have e : decide (((Nat.gcd a.natAbs c.natAbs : Nat) : Int) = 1) = decide (Nat.gcd a.natAbs c.natAbs = 1) := by
        by_cases g : Nat.gcd a.natAbs c.natAbs = 1
        · rw [decide_eq_true g, g]; rfl
        · rw [decide_eq_false g]; exact decide_eq_false (by omega)
      rw [e]
      exact h
    · rw [decide_eq_false h1] at h ⊢
      trivial
      exact h
theorem h_is_told_fraction : ∀ (ds : List D) (Q : Rv → Prop), ds.length = 1 → f_is_told_fraction ds Q → p_is_told_fraction { nx := fun _ _ => Q (.val .none), rt := fun _ r => Q r } 0 (PL.fill ["value"] (ds.map Sl.val)) := by
  intro ds Q hl h
  match ds, h with
  | [.tuple [.int a, .int c]], h =>
    have h : Q (.val (.bool (isFr (.tuple [.int a, .int c]) && decide ((a.natAbs : Int) < v_BEYOND) && decide (c < v_BEYOND)))) := h
    unfold p_is_told_fraction
    generalize v_BEYOND = vb at *
    trivial
    cases h1 : isFr (.tuple [.int a, .int c]) <;> rw [h1] at h
    · trivial
      exact h
    · trivial
      by_cases h2 : (a.natAbs : Int) < vb
      · rw [decide_eq_true h2] at h ⊢
        trivial
        exact h
      · rw [decide_eq_false h2] at h ⊢
        trivial
        exact h
theorem h_exponent_in : ∀ (ds : List D) (Q : Rv → Prop), ds.length = 2 → f_exponent_in ds Q → p_exponent_in { nx := fun _ _ => Q (.val .none), rt := fun _ r => Q r } 0 (PL.fill ["number", "part", "found", "left"] (ds.map Sl.val)) := by
  intro ds Q hl h
  match ds, h with
  | [.int a, .int p], ⟨n, m, ea, ep, n1, n2, m1, m2, h⟩ =>
    subst ea ep
    unfold p_exponent_in
    trivial
    unfold sWhile
    refine ⟨fun μ k e => k = 0 ∧ ∃ f l : Nat, e = [.val (.int n), .val (.int m), .val (.int f), .val (.int l)] ∧ 1 ≤ l ∧ μ = l ∧ l < 2 ^ 20 ∧ (f + (split1 m l l).1, (split1 m l l).2) = split1 m n n, ⟨n, rfl, 0, n, rfl, n1, rfl, n2, ?_⟩, ?_⟩
    · rw [Nat.zero_add]
    rintro μ k e ⟨rfl, f, l, rfl, l1, rfl, l2, hs⟩
    trivial
    rw [← Int.natCast_emod]
    by_cases z : μ % m = 0
    · rw [decide_eq_true (by omega : ((μ % m : Nat) : Int) = 0)]
      trivial
      obtain ⟨s1, s2, s3⟩ := split1_step m1 l1 z
      refine ⟨μ / m, s3, f + 1, μ / m, ?_, s2, rfl, by omega, ?_⟩
      · rw [Int.natCast_add, Int.natCast_one, Int.natCast_ediv]
      · rw [← hs, s1]
        exact Prod.ext (by show f + 1 + _ = f + (_ + 1); omega) rfl
    · rw [decide_eq_false (by omega : ¬ ((μ % m : Nat) : Int) = 0)]
      trivial
      rw [split1_stop l1 z] at hs
      rw [← hs] at h
      exact h
end K20

set_option Elab.async false
set_option linter.all false
set_option maxRecDepth 100000
set_option maxHeartbeats 4000000
namespace K20
open PySem PySem.Spec PyProof.Rows L2 PL
open Classical
local macro_rules | `(tactic| trivial) => `(tactic| (repeat (first | (with_reducible first | refine st_bin ?_ | refine st_v0v ?_ | refine st_v0o ?_ | refine st_v1v ?_ | refine st_v1o ?_ | refine st_v2v ?_ | refine st_v2o ?_ | refine st_v3v ?_ | refine st_v3o ?_ | refine st_v4v ?_ | refine st_v4o ?_ | refine st_v5v ?_ | refine st_v5o ?_ | refine st_v6v ?_ | refine st_v6o ?_ | refine st_v7v ?_ | refine st_v7o ?_ | refine st_v8v ?_ | refine st_v8o ?_ | refine st_v9v ?_ | refine st_v9o ?_ | refine st_v10v ?_ | refine st_v10o ?_ | refine st_v11v ?_ | refine st_v11o ?_ | refine st_v12v ?_ | refine st_v12o ?_ | refine st_v13v ?_ | refine st_v13o ?_ | refine st_v14v ?_ | refine st_v14o ?_ | refine st_v15v ?_ | refine st_v15o ?_ | refine st_C ?_ | refine st_cons ?_ | refine st_nil ?_ | refine st_ca ?_ | refine st_bval ?_ | refine st_exb ?_ | refine st_exi ?_ | refine st_exs ?_ | refine st_exl ?_ | refine st_exil ?_ | refine st_exit ?_ | refine st_exiz ?_ | refine st_seq ?_ | refine st_iT ?_ | refine st_iF ?_ | refine st_k0 ?_ | refine st_k1 ?_ | refine st_k2 ?_ | refine st_k3 ?_ | refine st_z0 ?_ | refine st_z1 ?_ | refine st_z2 ?_ | refine st_z3 ?_ | refine st_z4 ?_ | refine st_z5 ?_ | refine st_z6 ?_ | refine st_z7 ?_ | refine st_z8 ?_ | refine st_z9 ?_ | refine st_z10 ?_ | refine st_z11 ?_ | refine st_z12 ?_ | refine st_z13 ?_ | refine st_z14 ?_ | refine st_z15 ?_ | refine st_z16 ?_ | refine st_z17 ?_ | refine st_z18 ?_ | refine st_z19 ?_ | refine st_z20 ?_ | refine st_z21 ?_ | refine st_z22 ?_ | refine st_z23 ?_ | refine st_z24 ?_ | refine st_ret ?_ | refine st_rV ?_ | refine st_rO ?_ | refine st_vR ?_ | refine st_call ?_ | refine st_set ?_ | refine st_if ?_ | refine st_lt ?_ | refine st_le ?_ | refine st_gt ?_ | refine st_ge ?_ | refine st_eqi ?_ | refine st_nei ?_ | refine st_eqs ?_ | refine st_nes ?_ | refine st_add ?_ | refine st_sub ?_ | refine st_is ?_ | refine st_isnot ?_ | refine st_ix0l ?_ | refine st_ix0t ?_ | refine st_ix1l ?_ | refine st_ix1t ?_ | refine st_ix2l ?_ | refine st_ix2t ?_ | refine st_len0l ?_ | refine st_len0t ?_ | refine st_len1l ?_ | refine st_len1t ?_ | refine st_len2l ?_ | refine st_len2t ?_ | refine st_len3l ?_ | refine st_len3t ?_ | refine st_len4l ?_ | refine st_len4t ?_ | refine st_lenl ?_ | refine st_lent ?_ | refine st_abs ?_ | refine st_inti ?_ | refine st_intb ?_ | refine st_tupl ?_ | refine st_tupt ?_ | refine st_listl ?_ | refine st_listt ?_ | refine st_strs ?_ | refine st_max ?_ | refine st_min ?_ | refine st_gcd ?_ | refine st_neg ?_ | refine st_tup ?_ | refine st_lst ?_ | refine st_not ?_ | refine st_and ?_ | refine st_or ?_ | refine st_pnot ?_ | refine st_pand ?_ | refine st_por ?_ | refine st_pif ?_ | refine st_chain ?_ | refine st_isi ?_ | refine st_m1 ?_ | refine st_next ?_ | refine st_break ?_ | refine st_cont ?_ | refine st_retN ?_ | refine st_r0v ?_ | refine st_r0o ?_ | refine st_m0v ?_ | refine st_m0o ?_ | refine st_app0 ?_ | refine st_ext0 ?_ | refine st_gown0 ?_ | refine st_gext0 ?_ | refine st_d0 ?_ | refine st_p00 ?_ | refine st_p10 ?_ | refine st_p20 ?_ | refine st_w00 ?_ | refine st_w20 ?_ | refine st_r1v ?_ | refine st_r1o ?_ | refine st_m1v ?_ | refine st_m1o ?_ | refine st_app1 ?_ | refine st_ext1 ?_ | refine st_gown1 ?_ | refine st_gext1 ?_ | refine st_d1 ?_ | refine st_p01 ?_ | refine st_p11 ?_ | refine st_p21 ?_ | refine st_w01 ?_ | refine st_w21 ?_ | refine st_r2v ?_ | refine st_r2o ?_ | refine st_m2v ?_ | refine st_m2o ?_ | refine st_app2 ?_ | refine st_ext2 ?_ | refine st_gown2 ?_ | refine st_gext2 ?_ | refine st_d2 ?_ | refine st_p02 ?_ | refine st_p12 ?_ | refine st_p22 ?_ | refine st_w02 ?_ | refine st_w22 ?_ | refine st_r3v ?_ | refine st_r3o ?_ | refine st_m3v ?_ | refine st_m3o ?_ | refine st_app3 ?_ | refine st_ext3 ?_ | refine st_gown3 ?_ | refine st_gext3 ?_ | refine st_r4v ?_ | refine st_r4o ?_ | refine st_m4v ?_ | refine st_m4o ?_ | refine st_app4 ?_ | refine st_ext4 ?_ | refine st_gown4 ?_ | refine st_gext4 ?_ | refine st_r5v ?_ | refine st_r5o ?_ | refine st_m5v ?_ | refine st_m5o ?_ | refine st_app5 ?_ | refine st_ext5 ?_ | refine st_gown5 ?_ | refine st_gext5 ?_ | refine st_r6v ?_ | refine st_r6o ?_ | refine st_m6v ?_ | refine st_m6o ?_ | refine st_app6 ?_ | refine st_ext6 ?_ | refine st_gown6 ?_ | refine st_gext6 ?_ | refine st_r7v ?_ | refine st_r7o ?_ | refine st_m7v ?_ | refine st_m7o ?_ | refine st_app7 ?_ | refine st_ext7 ?_ | refine st_gown7 ?_ | refine st_gext7 ?_ | refine st_r8v ?_ | refine st_r8o ?_ | refine st_m8v ?_ | refine st_m8o ?_ | refine st_app8 ?_ | refine st_ext8 ?_ | refine st_gown8 ?_ | refine st_gext8 ?_ | refine st_r9v ?_ | refine st_r9o ?_ | refine st_m9v ?_ | refine st_m9o ?_ | refine st_app9 ?_ | refine st_ext9 ?_ | refine st_gown9 ?_ | refine st_gext9 ?_ | refine st_r10v ?_ | refine st_r10o ?_ | refine st_m10v ?_ | refine st_m10o ?_ | refine st_app10 ?_ | refine st_ext10 ?_ | refine st_gown10 ?_ | refine st_gext10 ?_ | refine st_r11v ?_ | refine st_r11o ?_ | refine st_m11v ?_ | refine st_m11o ?_ | refine st_app11 ?_ | refine st_ext11 ?_ | refine st_gown11 ?_ | refine st_gext11 ?_ | refine st_r12v ?_ | refine st_r12o ?_ | refine st_m12v ?_ | refine st_m12o ?_ | refine st_app12 ?_ | refine st_ext12 ?_ | refine st_gown12 ?_ | refine st_gext12 ?_ | refine st_r13v ?_ | refine st_r13o ?_ | refine st_m13v ?_ | refine st_m13o ?_ | refine st_app13 ?_ | refine st_ext13 ?_ | refine st_gown13 ?_ | refine st_gext13 ?_ | refine st_r14v ?_ | refine st_r14o ?_ | refine st_m14v ?_ | refine st_m14o ?_ | refine st_app14 ?_ | refine st_ext14 ?_ | refine st_gown14 ?_ | refine st_gext14 ?_ | refine st_r15v ?_ | refine st_r15o ?_ | refine st_m15v ?_ | refine st_m15o ?_ | refine st_app15 ?_ | refine st_ext15 ?_ | refine st_gown15 ?_ | refine st_gext15 ?_ | refine st_par ?_ | refine st_asg ?_ | refine st_ex ?_ | refine st_mR ?_ | refine st_mtup ?_ | refine st_mnil ?_ | refine st_mcons ?_ | refine st_for ?_ | refine st_imseq ?_ | refine st_iseq ?_ | refine st_imof ?_ | refine st_imr1 ?_ | refine st_ir1 ?_ | refine st_imr2 ?_ | refine st_enu ?_ | refine st_enl ?_ | refine st_ent ?_ | refine st_zip ?_ | refine st_zl ?_ | refine st_zt ?_ | refine st_lc ?_ | refine st_lc2 ?_ | refine st_oca ?_ | refine st_cat ?_ | refine st_excat ?_ | refine st_sll ?_ | refine st_sl ?_ | refine st_rev ?_ | refine st_nno ?_ | refine st_nat ?_ | refine st_tname ?_ | refine st_tt2 ?_ | refine st_mod (by omega) ?_ | refine st_fdv (by omega) (by omega) ?_ | refine st_mull (by omega) (by omega) ?_ | refine st_mulr (by omega) (by omega) ?_ | refine st_pow (by decide) (by decide) (by decide) ?_ | refine e_is_integer ?_ | refine e_common ?_ | refine e_is_fraction ?_ | refine e_law_common (by omega) (by omega) (by omega) (by omega) ?_) | (simp only [keepR, lfr, lf, lfs, frz, frz1, Rv.sl, Rv.d, updE, wipeE, fill_cc, fill_cn, fill_nn, dn, lfs_nL, lf_expoD, isI_dn, lfs_frD, isT_int_none, isT_int_bool, isT_int_int, isT_int_str, isT_int_list, isT_int_tuple, isT_bool_none, isT_bool_bool, isT_bool_int, isT_bool_str, isT_bool_list, isT_bool_tuple, isT_str_none, isT_str_bool, isT_str_int, isT_str_str, isT_str_list, isT_str_tuple, isT_list_none, isT_list_bool, isT_list_int, isT_list_str, isT_list_list, isT_list_tuple, isT_tuple_none, isT_tuple_bool, isT_tuple_int, isT_tuple_str, isT_tuple_list, isT_tuple_tuple, List.set_cons_zero, List.set_cons_succ, List.map_cons, List.map_nil, List.cons_append, List.nil_append, List.append_nil, Nat.reduceAdd, Nat.reduceSub, Nat.zero_add, Bool.and_true, Bool.true_and, Bool.and_self, Bool.not_true, Bool.not_false, Bool.and_false, Bool.false_and, Bool.or_false, Bool.false_or, Bool.or_true, Bool.true_or, if_true, reduceIte, isN, Bool.false_eq_true, if_false, Int.cast_ofNat_Int, Int.natCast_zero, Int.natCast_one, true_and, decide_true, decide_false, eq_self]))))
theorem mem_nL {d : D} {ns : List Nat} (h : d ∈ nL ns) : ∃ n ∈ ns, d = dn n := by
  obtain ⟨n, h1, h2⟩ := List.mem_map.mp h
  exact ⟨n, h1, h2.symm⟩
theorem nL_cons (n : Nat) (ns : List Nat) : nL (n :: ns) = dn n :: nL ns := rfl
theorem nL_nil : nL [] = [] := rfl
theorem flat_nL {d : D} {ns : List Nat} (h : d ∈ nL ns) : flat d = true := by
  obtain ⟨n, _, rfl⟩ := mem_nL h
  rfl
theorem nL_uncons {d : D} {r : List D} {B : List Nat} (h : nL B = d :: r) : ∃ n B', B = n :: B' ∧ d = dn n ∧ r = nL B' := by
  cases B with
  | nil => cases h
  | cons n B' =>
    rw [nL_cons] at h
    injection h with h1 h2
    exact ⟨n, B', rfl, h1.symm, h2.symm⟩
theorem nL_empty {B : List Nat} (h : nL B = []) : B = [] := by
  cases B with
  | nil => rfl
  | cons n B => cases h
theorem e_exponent_in {n m : Nat} {Q : Rv → Prop} (h1 : 1 ≤ n) (h2 : n < 2 ^ 20) (h3 : 2 ≤ m) (h4 : m < 2 ^ 20) (h : Q (.val (.tuple [dn (split1 m n n).1, dn (split1 m n n).2]))) : f_exponent_in [.int n, .int m] Q := ⟨n, m, rfl, rfl, h1, h2, h3, h4, h⟩
theorem h_exponents_by : ∀ (ds : List D) (Q : Rv → Prop), ds.length = 2 → f_exponents_by ds Q → p_exponents_by { nx := fun _ _ => Q (.val .none), rt := fun _ r => Q r } 0 (PL.fill ["base", "number", "found", "left", "part", "many"] (ds.map Sl.val)) := by
  rintro ds Q hl ⟨B, N, rfl, n1, n2, hB, hz, h⟩
  unfold p_exponents_by
  trivial
  refine forL_go (fun r k e => k = 0 ∧ ∃ (Br xs : List Nat) (l : Nat) (s4 s5 : Sl), nL Br = r ∧ e = [.val (.tuple (nL B)), .val (.int N), .own (nL xs), .val (.int l), s4, s5] ∧ 1 ≤ l ∧ l < 2 ^ 20 ∧ (∀ b ∈ Br, 2 ≤ b ∧ b < 2 ^ 20) ∧ xs ++ (splitAll Br l).1 = (splitAll B N).1 ∧ (splitAll Br l).2 = (splitAll B N).2 ∧ xs.length + Br.length = B.length) ?_ ?_ _ _ _ ⟨rfl, B, [], N, .un, .un, rfl, rfl, n1, n2, hB, rfl, rfl, by rw [List.length_nil, Nat.zero_add]⟩
  · rintro d r k e NN hN ⟨rfl, Br, xs, l, s4, s5, er, rfl, l1, l2, hBr, g1, g2, g3⟩
    obtain ⟨p, B', rfl, rfl, rfl⟩ := nL_uncons er
    refine ⟨_, rfl, ?_⟩
    trivial
    obtain ⟨p1, p2⟩ := hBr p List.mem_cons_self
    obtain ⟨_, t1, t2, _, _⟩ := split1_is p1 l l (Nat.le_refl _) l1
    refine e_exponent_in l1 l2 p1 p2 ?_
    trivial
    refine ⟨line_lt (by rw [nL_len]; rw [List.length_cons] at g3; omega), hN _ _ ⟨rfl, B', xs ++ [(split1 p l l).1], (split1 p l l).2, .val (.int p), .val (.int (split1 p l l).1), rfl, ?_, t1, by omega, fun b hb => hBr b (List.mem_cons_of_mem _ hb), ?_, ?_, ?_⟩⟩
    · rw [nL_app]; rfl
    · rw [List.append_assoc]; exact g1
    · exact g2
    · rw [List.length_append, List.length_singleton]; rw [List.length_cons] at g3; omega
  · rintro k e ⟨rfl, Br, xs, l, s4, s5, er, rfl, l1, l2, hBr, g1, g2, g3⟩
    have eB := nL_empty er
    subst eB
    trivial
    have e1 : xs = (splitAll B N).1 := by rw [← g1]; exact (List.append_nil _).symm
    have e2 : l = (splitAll B N).2 := g2
    subst e1
    unfold expoD at h
    rw [← e2] at h
    by_cases z : l = 1
    · rw [if_pos z] at h
      rw [decide_eq_true (by omega : (l : Int) = 1), if_pos rfl]
      exact h
    · rw [if_neg z] at h
      rw [decide_eq_false (by omega : ¬ (l : Int) = 1), if_neg (by simp)]
      exact h
end K20

set_option Elab.async false
set_option linter.all false
set_option maxRecDepth 100000
set_option maxHeartbeats 4000000
namespace K20
open PySem PySem.Spec PyProof.Rows L2 PL
open Classical
local macro_rules | `(tactic| trivial) => `(tactic| (repeat (first | (with_reducible first | refine st_bin ?_ | refine st_v0v ?_ | refine st_v0o ?_ | refine st_v1v ?_ | refine st_v1o ?_ | refine st_v2v ?_ | refine st_v2o ?_ | refine st_v3v ?_ | refine st_v3o ?_ | refine st_v4v ?_ | refine st_v4o ?_ | refine st_v5v ?_ | refine st_v5o ?_ | refine st_v6v ?_ | refine st_v6o ?_ | refine st_v7v ?_ | refine st_v7o ?_ | refine st_v8v ?_ | refine st_v8o ?_ | refine st_v9v ?_ | refine st_v9o ?_ | refine st_v10v ?_ | refine st_v10o ?_ | refine st_v11v ?_ | refine st_v11o ?_ | refine st_v12v ?_ | refine st_v12o ?_ | refine st_v13v ?_ | refine st_v13o ?_ | refine st_v14v ?_ | refine st_v14o ?_ | refine st_v15v ?_ | refine st_v15o ?_ | refine st_C ?_ | refine st_cons ?_ | refine st_nil ?_ | refine st_ca ?_ | refine st_bval ?_ | refine st_exb ?_ | refine st_exi ?_ | refine st_exs ?_ | refine st_exl ?_ | refine st_exil ?_ | refine st_exit ?_ | refine st_exiz ?_ | refine st_seq ?_ | refine st_iT ?_ | refine st_iF ?_ | refine st_k0 ?_ | refine st_k1 ?_ | refine st_k2 ?_ | refine st_k3 ?_ | refine st_z0 ?_ | refine st_z1 ?_ | refine st_z2 ?_ | refine st_z3 ?_ | refine st_z4 ?_ | refine st_z5 ?_ | refine st_z6 ?_ | refine st_z7 ?_ | refine st_z8 ?_ | refine st_z9 ?_ | refine st_z10 ?_ | refine st_z11 ?_ | refine st_z12 ?_ | refine st_z13 ?_ | refine st_z14 ?_ | refine st_z15 ?_ | refine st_z16 ?_ | refine st_z17 ?_ | refine st_z18 ?_ | refine st_z19 ?_ | refine st_z20 ?_ | refine st_z21 ?_ | refine st_z22 ?_ | refine st_z23 ?_ | refine st_z24 ?_ | refine st_ret ?_ | refine st_rV ?_ | refine st_rO ?_ | refine st_vR ?_ | refine st_call ?_ | refine st_set ?_ | refine st_if ?_ | refine st_lt ?_ | refine st_le ?_ | refine st_gt ?_ | refine st_ge ?_ | refine st_eqi ?_ | refine st_nei ?_ | refine st_eqs ?_ | refine st_nes ?_ | refine st_add ?_ | refine st_sub ?_ | refine st_is ?_ | refine st_isnot ?_ | refine st_ix0l ?_ | refine st_ix0t ?_ | refine st_ix1l ?_ | refine st_ix1t ?_ | refine st_ix2l ?_ | refine st_ix2t ?_ | refine st_len0l ?_ | refine st_len0t ?_ | refine st_len1l ?_ | refine st_len1t ?_ | refine st_len2l ?_ | refine st_len2t ?_ | refine st_len3l ?_ | refine st_len3t ?_ | refine st_len4l ?_ | refine st_len4t ?_ | refine st_lenl ?_ | refine st_lent ?_ | refine st_abs ?_ | refine st_inti ?_ | refine st_intb ?_ | refine st_tupl ?_ | refine st_tupt ?_ | refine st_listl ?_ | refine st_listt ?_ | refine st_strs ?_ | refine st_max ?_ | refine st_min ?_ | refine st_gcd ?_ | refine st_neg ?_ | refine st_tup ?_ | refine st_lst ?_ | refine st_not ?_ | refine st_and ?_ | refine st_or ?_ | refine st_pnot ?_ | refine st_pand ?_ | refine st_por ?_ | refine st_pif ?_ | refine st_chain ?_ | refine st_isi ?_ | refine st_m1 ?_ | refine st_next ?_ | refine st_break ?_ | refine st_cont ?_ | refine st_retN ?_ | refine st_r0v ?_ | refine st_r0o ?_ | refine st_m0v ?_ | refine st_m0o ?_ | refine st_app0 ?_ | refine st_ext0 ?_ | refine st_gown0 ?_ | refine st_gext0 ?_ | refine st_d0 ?_ | refine st_p00 ?_ | refine st_p10 ?_ | refine st_p20 ?_ | refine st_w00 ?_ | refine st_w20 ?_ | refine st_r1v ?_ | refine st_r1o ?_ | refine st_m1v ?_ | refine st_m1o ?_ | refine st_app1 ?_ | refine st_ext1 ?_ | refine st_gown1 ?_ | refine st_gext1 ?_ | refine st_d1 ?_ | refine st_p01 ?_ | refine st_p11 ?_ | refine st_p21 ?_ | refine st_w01 ?_ | refine st_w21 ?_ | refine st_r2v ?_ | refine st_r2o ?_ | refine st_m2v ?_ | refine st_m2o ?_ | refine st_app2 ?_ | refine st_ext2 ?_ | refine st_gown2 ?_ | refine st_gext2 ?_ | refine st_d2 ?_ | refine st_p02 ?_ | refine st_p12 ?_ | refine st_p22 ?_ | refine st_w02 ?_ | refine st_w22 ?_ | refine st_r3v ?_ | refine st_r3o ?_ | refine st_m3v ?_ | refine st_m3o ?_ | refine st_app3 ?_ | refine st_ext3 ?_ | refine st_gown3 ?_ | refine st_gext3 ?_ | refine st_r4v ?_ | refine st_r4o ?_ | refine st_m4v ?_ | refine st_m4o ?_ | refine st_app4 ?_ | refine st_ext4 ?_ | refine st_gown4 ?_ | refine st_gext4 ?_ | refine st_r5v ?_ | refine st_r5o ?_ | refine st_m5v ?_ | refine st_m5o ?_ | refine st_app5 ?_ | refine st_ext5 ?_ | refine st_gown5 ?_ | refine st_gext5 ?_ | refine st_r6v ?_ | refine st_r6o ?_ | refine st_m6v ?_ | refine st_m6o ?_ | refine st_app6 ?_ | refine st_ext6 ?_ | refine st_gown6 ?_ | refine st_gext6 ?_ | refine st_r7v ?_ | refine st_r7o ?_ | refine st_m7v ?_ | refine st_m7o ?_ | refine st_app7 ?_ | refine st_ext7 ?_ | refine st_gown7 ?_ | refine st_gext7 ?_ | refine st_r8v ?_ | refine st_r8o ?_ | refine st_m8v ?_ | refine st_m8o ?_ | refine st_app8 ?_ | refine st_ext8 ?_ | refine st_gown8 ?_ | refine st_gext8 ?_ | refine st_r9v ?_ | refine st_r9o ?_ | refine st_m9v ?_ | refine st_m9o ?_ | refine st_app9 ?_ | refine st_ext9 ?_ | refine st_gown9 ?_ | refine st_gext9 ?_ | refine st_r10v ?_ | refine st_r10o ?_ | refine st_m10v ?_ | refine st_m10o ?_ | refine st_app10 ?_ | refine st_ext10 ?_ | refine st_gown10 ?_ | refine st_gext10 ?_ | refine st_r11v ?_ | refine st_r11o ?_ | refine st_m11v ?_ | refine st_m11o ?_ | refine st_app11 ?_ | refine st_ext11 ?_ | refine st_gown11 ?_ | refine st_gext11 ?_ | refine st_r12v ?_ | refine st_r12o ?_ | refine st_m12v ?_ | refine st_m12o ?_ | refine st_app12 ?_ | refine st_ext12 ?_ | refine st_gown12 ?_ | refine st_gext12 ?_ | refine st_r13v ?_ | refine st_r13o ?_ | refine st_m13v ?_ | refine st_m13o ?_ | refine st_app13 ?_ | refine st_ext13 ?_ | refine st_gown13 ?_ | refine st_gext13 ?_ | refine st_r14v ?_ | refine st_r14o ?_ | refine st_m14v ?_ | refine st_m14o ?_ | refine st_app14 ?_ | refine st_ext14 ?_ | refine st_gown14 ?_ | refine st_gext14 ?_ | refine st_r15v ?_ | refine st_r15o ?_ | refine st_m15v ?_ | refine st_m15o ?_ | refine st_app15 ?_ | refine st_ext15 ?_ | refine st_gown15 ?_ | refine st_gext15 ?_ | refine st_par ?_ | refine st_asg ?_ | refine st_ex ?_ | refine st_mR ?_ | refine st_mtup ?_ | refine st_mnil ?_ | refine st_mcons ?_ | refine st_for ?_ | refine st_imseq ?_ | refine st_iseq ?_ | refine st_imof ?_ | refine st_imr1 ?_ | refine st_ir1 ?_ | refine st_imr2 ?_ | refine st_enu ?_ | refine st_enl ?_ | refine st_ent ?_ | refine st_zip ?_ | refine st_zl ?_ | refine st_zt ?_ | refine st_lc ?_ | refine st_lc2 ?_ | refine st_oca ?_ | refine st_cat ?_ | refine st_excat ?_ | refine st_sll ?_ | refine st_sl ?_ | refine st_rev ?_ | refine st_nno ?_ | refine st_nat ?_ | refine st_tname ?_ | refine st_tt2 ?_ | refine st_mod (by omega) ?_ | refine st_fdv (by omega) (by omega) ?_ | refine st_mull (by omega) (by omega) ?_ | refine st_mulr (by omega) (by omega) ?_ | refine st_pow (by decide) (by decide) (by decide) ?_ | refine e_is_integer ?_ | refine e_common ?_ | refine e_is_fraction ?_ | refine e_law_common (by omega) (by omega) (by omega) (by omega) ?_) | (simp only [keepR, lfr, lf, lfs, frz, frz1, Rv.sl, Rv.d, updE, wipeE, fill_cc, fill_cn, fill_nn, dn, lfs_nL, lf_expoD, isI_dn, lfs_frD, isT_int_none, isT_int_bool, isT_int_int, isT_int_str, isT_int_list, isT_int_tuple, isT_bool_none, isT_bool_bool, isT_bool_int, isT_bool_str, isT_bool_list, isT_bool_tuple, isT_str_none, isT_str_bool, isT_str_int, isT_str_str, isT_str_list, isT_str_tuple, isT_list_none, isT_list_bool, isT_list_int, isT_list_str, isT_list_list, isT_list_tuple, isT_tuple_none, isT_tuple_bool, isT_tuple_int, isT_tuple_str, isT_tuple_list, isT_tuple_tuple, List.set_cons_zero, List.set_cons_succ, List.map_cons, List.map_nil, List.cons_append, List.nil_append, List.append_nil, Nat.reduceAdd, Nat.reduceSub, Nat.zero_add, Bool.and_true, Bool.true_and, Bool.and_self, Bool.not_true, Bool.not_false, Bool.and_false, Bool.false_and, Bool.or_false, Bool.false_or, Bool.or_true, Bool.true_or, if_true, reduceIte, isN, Bool.false_eq_true, if_false, Int.cast_ofNat_Int, Int.natCast_zero, Int.natCast_one, true_and, decide_true, decide_false, eq_self]))))
theorem e_told {p : Nat × Nat} {Q : Rv → Prop} (hp : Fr p) (h : Q (.val (.bool true))) : f_is_told_fraction [frD p] Q := by
  show Q (.val (.bool (isFr (.tuple [.int p.1, .int p.2]) && decide (((p.1 : Int).natAbs : Int) < f_is_told_fraction.v10) && decide ((p.2 : Int) < f_is_told_fraction.v10))))
  have b : ((2 ^ 20 : Nat) : Int) ≤ f_is_told_fraction.v10 := by
    unfold f_is_told_fraction.v10
    exact Int.ofNat_le.mpr (Nat.le_of_lt (by decide +kernel))
  have a2 := hp.a2
  have b2 := hp.b2
  have b1 := hp.b1
  have e1 : isFr (.tuple [.int p.1, .int p.2]) = true := by
    show (decide ((1 : Int) ≤ p.2) && decide (Nat.gcd (p.1 : Int).natAbs (p.2 : Int).natAbs = 1)) = true
    rw [Int.natAbs_natCast, Int.natAbs_natCast, decide_eq_true hp.co, decide_eq_true (by omega)]
    rfl
  generalize f_is_told_fraction.v10 = v at *
  rw [e1, decide_eq_true (by omega), decide_eq_true (by omega)]
  exact h
theorem h_check_based : ∀ (ds : List D) (Q : Rv → Prop), ds.length = 1 → f_check_based ds Q → p_check_based { nx := fun _ _ => Q (.val .none), rt := fun _ r => Q r } 0 (PL.fill ["numbers", "one"] (ds.map Sl.val)) := by
  rintro ds Q hl ⟨ps, rfl, hp, hz, h⟩
  unfold p_check_based
  trivial
  rw [List.length_map, decide_eq_false (by unfold v_MOST_BASED; omega)]
  trivial
  refine comp_all (fun _ => .bool true) (fun d hd => ⟨_, rfl, fun R hR => ?_⟩) (line_le (by rw [List.length_map]; omega)) ?_
  · obtain ⟨p, hpm, rfl⟩ := List.mem_map.mp hd
    have fr := hp p hpm
    trivial
    refine e_told fr ?_
    unfold frD
    trivial
    have := fr.a1
    rw [decide_eq_true (by omega : (0 : Int) < p.1)]
    exact hR
  · trivial
    refine oAll_map (f := fun _ => true) ?_
    have e : ((ps.map frD).all fun _ => true) = true := by simp
    rw [e]
    trivial
    exact h
/-! base_of -/
def idxs (one : Nat) : Nat → List Nat → List Nat
  | _, [] => []
  | k, x :: r => if 1 < Nat.gcd one x then k :: idxs one (k + 1) r else idxs one (k + 1) r
theorem idxs_nil {one : Nat} : ∀ {k : Nat} {l : List Nat}, idxs one k l = [] → ∀ x ∈ l, ¬ 1 < Nat.gcd one x
  | _, [], _, x, h => by cases h
  | k, y :: r, e, x, h => by
    unfold idxs at e
    split at e
    · cases e
    · rcases List.mem_cons.mp h with rfl | h
      · assumption
      · exact idxs_nil e x h
theorem idxs_cons {one : Nat} : ∀ {k i : Nat} {l t : List Nat}, idxs one k l = i :: t → ∃ j x, i = k + j ∧ l[j]? = some x ∧ 1 < Nat.gcd one x
  | _, _, [], _, e => by cases e
  | k, i, y :: r, t, e => by
    unfold idxs at e
    split at e
    · injection e with e1 _
      exact ⟨0, y, by omega, rfl, by assumption⟩
    · obtain ⟨j, x, e1, e2, e3⟩ := idxs_cons e
      exact ⟨j + 1, x, by omega, by simpa using e2, e3⟩
def pairP (one : Nat) : D → Bool
  | .tuple [_, .int x] => decide (1 < (Nat.gcd one x.natAbs : Nat))
  | _ => false
def pairG : D → D
  | .tuple [i, _] => i
  | d => d
theorem idxs_is (one : Nat) : ∀ (k : Nat) (l : List Nat), ((pairsFrom k (nL l)).filter (pairP one)).map pairG = nL (idxs one k l)
  | _, [] => rfl
  | k, x :: r => by
    rw [nL_cons]
    show (((PyData.tuple [.int (k : Nat), dn x]) :: pairsFrom (k + 1) (nL r)).filter (pairP one)).map pairG = _
    have e : pairP one (.tuple [.int (k : Nat), dn x]) = decide (1 < Nat.gcd one x) := by
      show decide (1 < (Nat.gcd one (x : Int).natAbs : Nat)) = _
      rw [Int.natAbs_natCast]
    unfold idxs
    by_cases h : 1 < Nat.gcd one x
    · rw [List.filter_cons_of_pos (by rw [e]; exact decide_eq_true h), if_pos h, List.map_cons, idxs_is one (k + 1) r]
      rfl
    · rw [List.filter_cons_of_neg (by rw [e]; simp [h]), if_neg h, idxs_is one (k + 1) r]
theorem pairsFrom_mem : ∀ {k : Nat} {l : List Nat} {d : D}, d ∈ pairsFrom k (nL l) → ∃ i x : Nat, d = .tuple [.int i, .int x] ∧ x ∈ l
  | _, [], _, h => by cases h
  | k, x :: r, d, h => by
    rw [nL_cons] at h
    rcases List.mem_cons.mp h with rfl | h
    · exact ⟨k, x, rfl, List.mem_cons_self⟩
    · obtain ⟨i, y, e, hy⟩ := pairsFrom_mem h
      exact ⟨i, y, e, List.mem_cons_of_mem _ hy⟩
theorem nL_erase (l : List Nat) (k : Nat) : (nL l).eraseIdx k = nL (l.eraseIdx k) := by
  induction l generalizing k with
  | nil => rfl
  | cons x l ih =>
    cases k with
    | zero => rfl
    | succ k => show dn x :: (nL l).eraseIdx k = dn x :: nL (l.eraseIdx k); rw [ih]
theorem eqv_nL (xs ys : List Nat) : PyData.eqv (.list (nL xs)) (.list (nL ys)) = decide (xs = ys) := by
  have key : ∀ l : List Nat, nL l = (l.map fun (n : Nat) => (n : Int)).map PyData.int := fun l => by unfold nL; rw [List.map_map]; rfl
  simp only [PyData.eqv]
  rw [key, key, eqvAll_ints]
  by_cases h : xs = ys
  · rw [decide_eq_true h, h]; exact decide_eq_true rfl
  · rw [decide_eq_false h]
    refine decide_eq_false fun e => h ?_
    exact (List.map_inj_right (f := fun (n : Nat) => (n : Int)) (fun x y (z : (x : Int) = (y : Int)) => by omega)).mp e
theorem eqv_nL0 (xs : List Nat) : PyData.eqv (.list (nL xs)) (.list []) = decide (xs = []) := eqv_nL xs []
theorem len_pow {l : List Nat} (h : ∀ b ∈ l, 2 ≤ b) : 2 ^ l.length ≤ prodL l := by
  induction l with
  | nil => exact Nat.le_refl _
  | cons x l ih =>
    have := ih fun b hb => h b (List.mem_cons_of_mem _ hb)
    have := h x List.mem_cons_self
    rw [List.length_cons, Nat.pow_succ, Nat.mul_comm]
    exact Nat.mul_le_mul this ‹2 ^ l.length ≤ prodL l›
theorem len_le {l : List Nat} {L : Nat} (h : ∀ b ∈ l, 2 ≤ b) (h2 : prodL l ≤ 2 ^ L) : l.length ≤ L := (Nat.pow_le_pow_iff_right (by decide)).mp (Nat.le_trans (len_pow h) h2)
end K20

set_option Elab.async false
set_option linter.all false
set_option maxRecDepth 100000
set_option maxHeartbeats 4000000
namespace K20
open PySem PySem.Spec PyProof.Rows L2 PL
open Classical
local macro_rules | `(tactic| trivial) => `(tactic| (repeat (first | (with_reducible first | refine st_bin ?_ | refine st_v0v ?_ | refine st_v0o ?_ | refine st_v1v ?_ | refine st_v1o ?_ | refine st_v2v ?_ | refine st_v2o ?_ | refine st_v3v ?_ | refine st_v3o ?_ | refine st_v4v ?_ | refine st_v4o ?_ | refine st_v5v ?_ | refine st_v5o ?_ | refine st_v6v ?_ | refine st_v6o ?_ | refine st_v7v ?_ | refine st_v7o ?_ | refine st_v8v ?_ | refine st_v8o ?_ | refine st_v9v ?_ | refine st_v9o ?_ | refine st_v10v ?_ | refine st_v10o ?_ | refine st_v11v ?_ | refine st_v11o ?_ | refine st_v12v ?_ | refine st_v12o ?_ | refine st_v13v ?_ | refine st_v13o ?_ | refine st_v14v ?_ | refine st_v14o ?_ | refine st_v15v ?_ | refine st_v15o ?_ | refine st_C ?_ | refine st_cons ?_ | refine st_nil ?_ | refine st_ca ?_ | refine st_bval ?_ | refine st_exb ?_ | refine st_exi ?_ | refine st_exs ?_ | refine st_exl ?_ | refine st_exil ?_ | refine st_exit ?_ | refine st_exiz ?_ | refine st_seq ?_ | refine st_iT ?_ | refine st_iF ?_ | refine st_k0 ?_ | refine st_k1 ?_ | refine st_k2 ?_ | refine st_k3 ?_ | refine st_z0 ?_ | refine st_z1 ?_ | refine st_z2 ?_ | refine st_z3 ?_ | refine st_z4 ?_ | refine st_z5 ?_ | refine st_z6 ?_ | refine st_z7 ?_ | refine st_z8 ?_ | refine st_z9 ?_ | refine st_z10 ?_ | refine st_z11 ?_ | refine st_z12 ?_ | refine st_z13 ?_ | refine st_z14 ?_ | refine st_z15 ?_ | refine st_z16 ?_ | refine st_z17 ?_ | refine st_z18 ?_ | refine st_z19 ?_ | refine st_z20 ?_ | refine st_z21 ?_ | refine st_z22 ?_ | refine st_z23 ?_ | refine st_z24 ?_ | refine st_ret ?_ | refine st_rV ?_ | refine st_rO ?_ | refine st_vR ?_ | refine st_call ?_ | refine st_set ?_ | refine st_if ?_ | refine st_lt ?_ | refine st_le ?_ | refine st_gt ?_ | refine st_ge ?_ | refine st_eqi ?_ | refine st_nei ?_ | refine st_eqs ?_ | refine st_nes ?_ | refine st_add ?_ | refine st_sub ?_ | refine st_is ?_ | refine st_isnot ?_ | refine st_ix0l ?_ | refine st_ix0t ?_ | refine st_ix1l ?_ | refine st_ix1t ?_ | refine st_ix2l ?_ | refine st_ix2t ?_ | refine st_len0l ?_ | refine st_len0t ?_ | refine st_len1l ?_ | refine st_len1t ?_ | refine st_len2l ?_ | refine st_len2t ?_ | refine st_len3l ?_ | refine st_len3t ?_ | refine st_len4l ?_ | refine st_len4t ?_ | refine st_lenl ?_ | refine st_lent ?_ | refine st_abs ?_ | refine st_inti ?_ | refine st_intb ?_ | refine st_tupl ?_ | refine st_tupt ?_ | refine st_listl ?_ | refine st_listt ?_ | refine st_strs ?_ | refine st_max ?_ | refine st_min ?_ | refine st_gcd ?_ | refine st_neg ?_ | refine st_tup ?_ | refine st_lst ?_ | refine st_not ?_ | refine st_and ?_ | refine st_or ?_ | refine st_pnot ?_ | refine st_pand ?_ | refine st_por ?_ | refine st_pif ?_ | refine st_chain ?_ | refine st_isi ?_ | refine st_m1 ?_ | refine st_next ?_ | refine st_break ?_ | refine st_cont ?_ | refine st_retN ?_ | refine st_r0v ?_ | refine st_r0o ?_ | refine st_m0v ?_ | refine st_m0o ?_ | refine st_app0 ?_ | refine st_ext0 ?_ | refine st_gown0 ?_ | refine st_gext0 ?_ | refine st_d0 ?_ | refine st_p00 ?_ | refine st_p10 ?_ | refine st_p20 ?_ | refine st_w00 ?_ | refine st_w20 ?_ | refine st_r1v ?_ | refine st_r1o ?_ | refine st_m1v ?_ | refine st_m1o ?_ | refine st_app1 ?_ | refine st_ext1 ?_ | refine st_gown1 ?_ | refine st_gext1 ?_ | refine st_d1 ?_ | refine st_p01 ?_ | refine st_p11 ?_ | refine st_p21 ?_ | refine st_w01 ?_ | refine st_w21 ?_ | refine st_r2v ?_ | refine st_r2o ?_ | refine st_m2v ?_ | refine st_m2o ?_ | refine st_app2 ?_ | refine st_ext2 ?_ | refine st_gown2 ?_ | refine st_gext2 ?_ | refine st_d2 ?_ | refine st_p02 ?_ | refine st_p12 ?_ | refine st_p22 ?_ | refine st_w02 ?_ | refine st_w22 ?_ | refine st_r3v ?_ | refine st_r3o ?_ | refine st_m3v ?_ | refine st_m3o ?_ | refine st_app3 ?_ | refine st_ext3 ?_ | refine st_gown3 ?_ | refine st_gext3 ?_ | refine st_r4v ?_ | refine st_r4o ?_ | refine st_m4v ?_ | refine st_m4o ?_ | refine st_app4 ?_ | refine st_ext4 ?_ | refine st_gown4 ?_ | refine st_gext4 ?_ | refine st_r5v ?_ | refine st_r5o ?_ | refine st_m5v ?_ | refine st_m5o ?_ | refine st_app5 ?_ | refine st_ext5 ?_ | refine st_gown5 ?_ | refine st_gext5 ?_ | refine st_r6v ?_ | refine st_r6o ?_ | refine st_m6v ?_ | refine st_m6o ?_ | refine st_app6 ?_ | refine st_ext6 ?_ | refine st_gown6 ?_ | refine st_gext6 ?_ | refine st_r7v ?_ | refine st_r7o ?_ | refine st_m7v ?_ | refine st_m7o ?_ | refine st_app7 ?_ | refine st_ext7 ?_ | refine st_gown7 ?_ | refine st_gext7 ?_ | refine st_r8v ?_ | refine st_r8o ?_ | refine st_m8v ?_ | refine st_m8o ?_ | refine st_app8 ?_ | refine st_ext8 ?_ | refine st_gown8 ?_ | refine st_gext8 ?_ | refine st_r9v ?_ | refine st_r9o ?_ | refine st_m9v ?_ | refine st_m9o ?_ | refine st_app9 ?_ | refine st_ext9 ?_ | refine st_gown9 ?_ | refine st_gext9 ?_ | refine st_r10v ?_ | refine st_r10o ?_ | refine st_m10v ?_ | refine st_m10o ?_ | refine st_app10 ?_ | refine st_ext10 ?_ | refine st_gown10 ?_ | refine st_gext10 ?_ | refine st_r11v ?_ | refine st_r11o ?_ | refine st_m11v ?_ | refine st_m11o ?_ | refine st_app11 ?_ | refine st_ext11 ?_ | refine st_gown11 ?_ | refine st_gext11 ?_ | refine st_r12v ?_ | refine st_r12o ?_ | refine st_m12v ?_ | refine st_m12o ?_ | refine st_app12 ?_ | refine st_ext12 ?_ | refine st_gown12 ?_ | refine st_gext12 ?_ | refine st_r13v ?_ | refine st_r13o ?_ | refine st_m13v ?_ | refine st_m13o ?_ | refine st_app13 ?_ | refine st_ext13 ?_ | refine st_gown13 ?_ | refine st_gext13 ?_ | refine st_r14v ?_ | refine st_r14o ?_ | refine st_m14v ?_ | refine st_m14o ?_ | refine st_app14 ?_ | refine st_ext14 ?_ | refine st_gown14 ?_ | refine st_gext14 ?_ | refine st_r15v ?_ | refine st_r15o ?_ | refine st_m15v ?_ | refine st_m15o ?_ | refine st_app15 ?_ | refine st_ext15 ?_ | refine st_gown15 ?_ | refine st_gext15 ?_ | refine st_par ?_ | refine st_asg ?_ | refine st_ex ?_ | refine st_mR ?_ | refine st_mtup ?_ | refine st_mnil ?_ | refine st_mcons ?_ | refine st_for ?_ | refine st_imseq ?_ | refine st_iseq ?_ | refine st_imof ?_ | refine st_imr1 ?_ | refine st_ir1 ?_ | refine st_imr2 ?_ | refine st_enu ?_ | refine st_enl ?_ | refine st_ent ?_ | refine st_zip ?_ | refine st_zl ?_ | refine st_zt ?_ | refine st_lc ?_ | refine st_lc2 ?_ | refine st_oca ?_ | refine st_cat ?_ | refine st_excat ?_ | refine st_sll ?_ | refine st_sl ?_ | refine st_rev ?_ | refine st_nno ?_ | refine st_nat ?_ | refine st_tname ?_ | refine st_tt2 ?_ | refine st_mod (by omega) ?_ | refine st_fdv (by omega) (by omega) ?_ | refine st_mull (by omega) (by omega) ?_ | refine st_mulr (by omega) (by omega) ?_ | refine st_pow (by decide) (by decide) (by decide) ?_ | refine e_is_integer ?_ | refine e_common ?_ | refine e_is_fraction ?_ | refine e_law_common (by omega) (by omega) (by omega) (by omega) ?_) | (simp only [keepR, lfr, lf, lfs, frz, frz1, Rv.sl, Rv.d, updE, wipeE, fill_cc, fill_cn, fill_nn, dn, lfs_nL, lf_expoD, isI_dn, lfs_frD, isT_int_none, isT_int_bool, isT_int_int, isT_int_str, isT_int_list, isT_int_tuple, isT_bool_none, isT_bool_bool, isT_bool_int, isT_bool_str, isT_bool_list, isT_bool_tuple, isT_str_none, isT_str_bool, isT_str_int, isT_str_str, isT_str_list, isT_str_tuple, isT_list_none, isT_list_bool, isT_list_int, isT_list_str, isT_list_list, isT_list_tuple, isT_tuple_none, isT_tuple_bool, isT_tuple_int, isT_tuple_str, isT_tuple_list, isT_tuple_tuple, List.set_cons_zero, List.set_cons_succ, List.map_cons, List.map_nil, List.cons_append, List.nil_append, List.append_nil, Nat.reduceAdd, Nat.reduceSub, Nat.zero_add, Bool.and_true, Bool.true_and, Bool.and_self, Bool.not_true, Bool.not_false, Bool.and_false, Bool.false_and, Bool.or_false, Bool.false_or, Bool.or_true, Bool.true_or, if_true, reduceIte, isN, Bool.false_eq_true, if_false, Int.cast_ofNat_Int, Int.natCast_zero, Int.natCast_one, true_and, decide_true, decide_false, eq_self]))))
theorem prodL_snoc (l : List Nat) (x : Nat) : prodL (l ++ [x]) = prodL l * x := by
  rw [prodL_append]
  show prodL l * (x * 1) = _
  rw [Nat.mul_one]
theorem mem_erase_or : ∀ {l : List Nat} {j q : Nat}, l[j]? = some q → ∀ {m : Nat}, m ∈ l → m = q ∨ m ∈ l.eraseIdx j
  | [], _, _, h, _, hm => absurd hm List.not_mem_nil
  | x :: l, 0, q, h, m, hm => by
    have e : x = q := by simpa using h
    rcases List.mem_cons.mp hm with z | z
    · exact .inl (z.trans e)
    · exact .inr z
  | x :: l, j + 1, q, h, m, hm => by
    rcases List.mem_cons.mp hm with z | z
    · exact .inr (by rw [z]; exact List.mem_cons_self)
    · rcases mem_erase_or (l := l) (j := j) (by simpa using h) z with y | y
      · exact .inl y
      · exact .inr (List.mem_cons_of_mem _ y)
theorem half_pow {P P' L : Nat} (h1 : P' * 2 ≤ P) (h2 : P ≤ 2 ^ L) (h3 : 1 ≤ P') : ∃ L', L = L' + 1 ∧ P' ≤ 2 ^ L' := by
  cases L with
  | zero => rw [Nat.pow_zero] at h2; omega
  | succ L => exact ⟨L, rfl, by rw [Nat.pow_succ] at h2; omega⟩
theorem h_base_of : ∀ (ds : List D) (Q : Rv → Prop), ds.length = 1 → f_base_of ds Q → p_base_of { nx := fun _ _ => Q (.val .none), rt := fun _ r => Q r } 0 (PL.fill ["numbers", "found", "number", "waiting", "one", "some", "other", "both", "at"] (ds.map Sl.val)) := by
  rintro ds Q hl ⟨ns, hds, hns, hz, h⟩
  obtain ⟨d0, rfl, hit⟩ : ∃ d0, ds = [d0] ∧ items d0 = some (nL ns) := by rcases hds with rfl | rfl <;> exact ⟨_, rfl, rfl⟩
  unfold p_base_of
  trivial
  refine ⟨nL ns, hit, ?_⟩
  refine forL_go (fun r k e => k = 0 ∧ ∃ (rest seen found : List Nat) (s2 s3 s4 s5 s6 s7 s8 : Sl), nL rest = r ∧ e = [.val d0, .own (nL found), s2, s3, s4, s5, s6, s7, s8] ∧ Way ns seen found [] ∧ (∀ n ∈ ns, n ∈ seen ∨ n ∈ rest) ∧ (∀ n ∈ rest, n ∈ ns) ∧ (∀ x ∈ found, x < 2 ^ 20) ∧ ∃ k, prodL found ≤ 2 ^ (20 * k) ∧ k + rest.length ≤ 1000) ?_ ?_ _ _ _
    ⟨rfl, ns, [], [], .un, .un, .un, .un, .un, .un, .un, rfl, rfl, way_start ns, fun n hn => .inr hn, fun n hn => hn, fun x hx => absurd hx List.not_mem_nil, 0, Nat.le_refl _, by omega⟩
  · rintro d r k e NN hN ⟨rfl, rest, seen, found, s2, s3, s4, s5, s6, s7, s8, er, rfl, hw, hsub, hrest, hlt, kk, hk, hkl⟩
    obtain ⟨n, rest', rfl, rfl, rfl⟩ := nL_uncons er
    have nin := hrest n List.mem_cons_self
    obtain ⟨n1, n2⟩ := hns n nin
    refine ⟨_, rfl, ?_⟩
    trivial
    unfold sWhile
    refine ⟨fun μ k e => k = 0 ∧ ∃ (found wait : List Nat) (L : Nat) (s4 s5 s6 s7 s8 : Sl), e = [.val d0, .own (nL found), .val (.int n), .own (nL wait), s4, s5, s6, s7, s8] ∧ Way ns (n :: seen) found wait ∧ prodL found * prodL wait ≤ 2 ^ L ∧ L ≤ 20 * (kk + 1) ∧ μ = 3 * L + wait.length ∧ 2 * L + wait.length ≤ 2 * (20 * (kk + 1)) + 1 ∧ (∀ x ∈ found, x < 2 ^ 20) ∧ (∀ x ∈ wait, x < 2 ^ 20),
      ⟨_, rfl, found, [n], 20 * (kk + 1), s4, s5, s6, s7, s8, rfl, hw.more nin n1, ?_, Nat.le_refl _, rfl, Nat.le_refl _, hlt, fun x hx => by rw [List.mem_singleton.mp hx]; exact n2⟩, ?_⟩
    · show prodL found * (n * 1) ≤ _
      rw [Nat.mul_one, Nat.mul_add, Nat.pow_add]
      exact Nat.mul_le_mul hk (Nat.le_of_lt n2)
    rintro μ k e ⟨rfl, found, wait, L, s4, s5, s6, s7, s8, rfl, hw, hP, hL, rfl, hLw, hlt, hltw⟩
    have fl := len_le hw.cb.two (Nat.le_trans (Nat.le_mul_of_pos_right _ (prodL_pos hw.w1)) hP)
    have f1 : ∀ x ∈ found, 1 ≤ x := fun x hx => by have := hw.cb.two x hx; omega
    have kb : kk + 1 ≤ 1000 := by rw [List.length_cons] at hkl; omega
    trivial
    refine ⟨shaped_list fun d hd => flat_nL hd, shaped_list fun d hd => absurd hd List.not_mem_nil, ?_⟩
    rw [eqv_nL0]
    rcases List.eq_nil_or_concat wait with rfl | ⟨w0, one, rfl⟩
    · -- nothing waits
      rw [decide_eq_true rfl]
      trivial
      refine hN _ _ ⟨rfl, rest', n :: seen, found, _, _, s4, s5, s6, s7, s8, rfl, rfl, hw, fun m hm => ?_, fun m hm => hrest m (List.mem_cons_of_mem _ hm), hlt, kk + 1, ?_, ?_⟩
      · rcases hsub m hm with e | e
        · exact .inl (List.mem_cons_of_mem _ e)
        · rcases List.mem_cons.mp e with e | e
          · exact .inl (by rw [e]; exact List.mem_cons_self)
          · exact .inr e
      · refine Nat.le_trans ?_ (Nat.pow_le_pow_right (by decide) hL)
        have : prodL found * 1 ≤ 2 ^ L := hP
        rwa [Nat.mul_one] at this
      · rw [List.length_cons] at hkl; omega
    · rw [List.concat_eq_append] at *
      rw [decide_eq_false (by simp)]
      trivial
      have o1 : 1 ≤ one := hw.w1 one (List.mem_append_right _ (List.mem_singleton.mpr rfl))
      have o2 : one < 2 ^ 20 := hltw one (List.mem_append_right _ (List.mem_singleton.mpr rfl))
      have hltw0 : ∀ x ∈ w0, x < 2 ^ 20 := fun x hx => hltw x (List.mem_append_left _ hx)
      rw [prodL_snoc] at hP
      rw [List.length_append, List.length_singleton] at hLw
      rw [List.length_append, List.length_singleton]
      have hw2 : Way ns (n :: seen) found (one :: w0) := hw.perm fun x => by simp [or_comm]
      have w0p : ∀ x ∈ w0, 1 ≤ x := fun x hx => hw.w1 x (List.mem_append_left _ hx)
      refine ⟨nL w0, dn one, by rw [nL_app]; rfl, ?_⟩
      trivial
      refine compF_all (pairP one) pairG (fun d hd => ?_) (line_le (by rw [pairsFrom_len, nL_len]; omega)) ?_
      · obtain ⟨i, x, rfl, hx⟩ := pairsFrom_mem hd
        refine ⟨_, rfl, fun R hR => ?_, fun R hR => ?_⟩
        · trivial
          have e : pairP one (.tuple [.int i, .int x]) = decide (1 < (Nat.gcd ((one : Int)).natAbs ((x : Int)).natAbs : Int)) := by
            show decide (1 < Nat.gcd one (x : Int).natAbs) = _
            rw [Int.natAbs_natCast, Int.natAbs_natCast]
            by_cases h : 1 < Nat.gcd one x
            · rw [decide_eq_true h, decide_eq_true (by omega)]
            · rw [decide_eq_false h, decide_eq_false (by omega)]
          rw [e] at hR
          exact hR
        · trivial
          exact hR
      rw [idxs_is]
      trivial
      by_cases c1 : 1 < (one : Int)
      · rw [decide_eq_true c1]
        trivial
        refine ⟨shaped_list fun d hd => flat_nL hd, shaped_list fun d hd => absurd hd List.not_mem_nil, ?_⟩
        rw [eqv_nL0]
        cases hix : idxs one 0 found with
        | nil =>
          rw [decide_eq_true rfl]
          trivial
          refine ⟨line_lt (by rw [nL_len]; omega), 3 * L + w0.length, by omega, found ++ [one], w0, L, .val (.int one), .own (nL []), s6, s7, s8, by rw [nL_app]; rfl, hw2.add (by omega) (fun x hx => ?_), ?_, hL, rfl, by omega, fun x hx => ?_, hltw0⟩
          · have a1 := idxs_nil hix x hx
            have a2 := Nat.gcd_pos_of_pos_left x o1
            omega
          · rw [prodL_snoc, Nat.mul_assoc, Nat.mul_comm one]; exact hP
          · rcases List.mem_append.mp hx with e | e
            · exact hlt x e
            · rw [List.mem_singleton.mp e]; exact o2
        | cons i t =>
          rw [decide_eq_false (by simp)]
          trivial
          rw [decide_eq_true c1]
          trivial
          obtain ⟨j, q, eij, hj, hg⟩ := idxs_cons hix
          have eij' : i = j := by omega
          subst eij'
          have jl : i < found.length := (List.getElem?_eq_some_iff.mp hj).1
          have qm : q ∈ found := List.mem_of_getElem? hj
          have q2 := hw.cb.two q qm
          have q3 := hlt q qm
          rw [nL_cons]
          refine ⟨nL found, rfl, ?_⟩
          trivial
          refine ⟨i, dn q, rfl, by omega, nL_get hj, ?_⟩
          rw [nL_erase]
          have G : Nat.gcd ((one : Int)).natAbs ((q : Int)).natAbs = Nat.gcd one q := rfl
          have gle : Nat.gcd one q ≤ one := Nat.gcd_le_left q o1
          have G1 : 1 < Nat.gcd ((one : Int)).natAbs ((q : Int)).natAbs := hg
          have G2 : Nat.gcd ((one : Int)).natAbs ((q : Int)).natAbs ≤ one := gle
          trivial
          have dl : ∀ x, x ∈ w0 ++ [one / Nat.gcd one q, q / Nat.gcd one q, Nat.gcd one q] ↔ x ∈ one / Nat.gcd one q :: q / Nat.gcd one q :: Nat.gcd one q :: w0 := fun x => by
            simp only [List.mem_append, List.mem_cons, List.not_mem_nil, or_false]
            constructor
            · rintro (h | h | h | h) <;> simp [h]
            · rintro (h | h | h | h) <;> simp [h]
          have P1 : 1 ≤ prodL (found.eraseIdx i) * prodL w0 := Nat.mul_pos (prodL_pos fun x hx => f1 x ((List.eraseIdx_sublist found i).subset hx)) (prodL_pos w0p)
          obtain ⟨z1, z2⟩ := split_half (p := one) (q := q) hg P1 o1 (by omega)
          have eP : one * (q * (prodL (found.eraseIdx i) * prodL w0)) = prodL found * (prodL w0 * one) := by
            rw [prodL_erase hj]
            simp only [Nat.mul_comm, Nat.mul_left_comm, Nat.mul_assoc]
          rw [eP] at z1
          obtain ⟨L', eL, hL'⟩ := half_pow z1 hP z2
          refine ⟨line_le (by rw [nL_len]; show w0.length + 3 ≤ _; omega), 3 * L' + (w0.length + 3), by omega, found.eraseIdx i, w0 ++ [one / Nat.gcd one q, q / Nat.gcd one q, Nat.gcd one q], L', .val (.int one), .own (.int i :: nL t), .val (.int q), .val (.int (Nat.gcd one q : Nat)), s8, ?_, ?_, ?_, by omega, ?_, ?_, fun x hx => hlt x ((List.eraseIdx_sublist found i).subset hx), fun x hx => ?_⟩
          · rw [nL_app, G]
            show _ = [Sl.val d0, _, _, Sl.own (nL w0 ++ [.int ((one / Nat.gcd one q : Nat) : Int), .int ((q / Nat.gcd one q : Nat) : Int), .int ((Nat.gcd one q : Nat) : Int)]), _, _, _, _, _]
            rw [Int.natCast_ediv, Int.natCast_ediv]
          · exact (hw2.split qm (List.eraseIdx_sublist found i) (fun m hm => mem_erase_or hj hm) hg).perm dl
          · rw [prodL_append]
            show prodL (found.eraseIdx i) * (prodL w0 * (one / Nat.gcd one q * (q / Nat.gcd one q * (Nat.gcd one q * 1)))) ≤ _
            rw [Nat.mul_one]
            refine Nat.le_trans (Nat.le_of_eq ?_) hL'
            simp only [Nat.mul_comm, Nat.mul_left_comm, Nat.mul_assoc]
          · rw [List.length_append]; rfl
          · rw [List.length_append]
            show 2 * L' + (w0.length + 3) ≤ _
            omega
          · rcases List.mem_append.mp hx with e | e
            · exact hltw0 x e
            · have d1 : one / Nat.gcd one q ≤ one := Nat.div_le_self _ _
              have d2 : q / Nat.gcd one q ≤ q := Nat.div_le_self _ _
              have gle : Nat.gcd one q ≤ one := Nat.gcd_le_left q o1
              simp only [List.mem_cons, List.not_mem_nil, or_false] at e
              omega
      · rw [decide_eq_false c1]
        trivial
        rw [decide_eq_false c1]
        trivial
        have e1 : one = 1 := by omega
        subst e1
        refine ⟨3 * L + w0.length, by omega, found, w0, L, .val (.int (1 : Nat)), .own (nL (idxs 1 0 found)), s6, s7, s8, rfl, hw2.drop1, by rw [Nat.mul_one] at hP; exact hP, hL, rfl, by omega, hlt, hltw0⟩
  · rintro k e ⟨rfl, rest, seen, found, s2, s3, s4, s5, s6, s7, s8, er, rfl, hw, hsub, hrest, hlt, _⟩
    have e0 := nL_empty er
    subst e0
    trivial
    have hway : Way ns ns found [] := ⟨hw.cb, hw.w1, fun m hm => hw.gen m ((hsub m hm).resolve_right List.not_mem_nil), hw.least⟩
    refine ⟨found.map fun (n : Nat) => (n : Int), by unfold nL; rw [List.map_map]; rfl, fun ms hp hs => ?_⟩
    have pos : ∀ m ∈ ms, 0 ≤ m := fun m hm => by
      obtain ⟨x, _, rfl⟩ := List.mem_map.mp (hp.subset hm)
      exact Int.natCast_nonneg x
    have eB : ms = (ms.map Int.toNat).map fun (n : Nat) => (n : Int) := by
      rw [List.map_map]
      have : ∀ l : List Int, (∀ m ∈ l, 0 ≤ m) → l = l.map ((fun (n : Nat) => (n : Int)) ∘ Int.toNat) := by
        intro l
        induction l with
        | nil => intro _; rfl
        | cons x l ih =>
          intro hx
          rw [List.map_cons, ← ih fun m hm => hx m (List.mem_cons_of_mem _ hm)]
          have := hx x List.mem_cons_self
          show x :: l = ((x.toNat : Nat) : Int) :: l
          rw [Int.toNat_of_nonneg this]
      exact this ms pos
    have pB : (ms.map Int.toNat).Perm found := by
      have := hp.map Int.toNat
      rw [List.map_map] at this
      have e : found.map (Int.toNat ∘ fun (n : Nat) => (n : Int)) = found := by
        have : (Int.toNat ∘ fun (n : Nat) => (n : Int)) = id := by funext x; exact Int.toNat_natCast x
        rw [this, List.map_id]
      rw [e] at this
      exact this
    have sB : (ms.map Int.toNat).Pairwise (· ≤ ·) := List.pairwise_map.mpr (hs.imp fun {a c} hac => Int.toNat_le_toNat hac)
    have q := h _ (hway.done pB sB)
    have e2 : ms.map PyData.int = nL (ms.map Int.toNat) := by
      unfold nL
      conv => lhs; rw [eB]
      rw [List.map_map]; rfl
    rw [e2]
    exact q
end K20

set_option Elab.async false
set_option linter.all false
set_option maxRecDepth 100000
set_option maxHeartbeats 4000000
namespace K20
open PySem PySem.Spec PyProof.Rows L2 PL
open Classical
local macro_rules | `(tactic| trivial) => `(tactic| (repeat (first | (with_reducible first | refine st_bin ?_ | refine st_v0v ?_ | refine st_v0o ?_ | refine st_v1v ?_ | refine st_v1o ?_ | refine st_v2v ?_ | refine st_v2o ?_ | refine st_v3v ?_ | refine st_v3o ?_ | refine st_v4v ?_ | refine st_v4o ?_ | refine st_v5v ?_ | refine st_v5o ?_ | refine st_v6v ?_ | refine st_v6o ?_ | refine st_v7v ?_ | refine st_v7o ?_ | refine st_v8v ?_ | refine st_v8o ?_ | refine st_v9v ?_ | refine st_v9o ?_ | refine st_v10v ?_ | refine st_v10o ?_ | refine st_v11v ?_ | refine st_v11o ?_ | refine st_v12v ?_ | refine st_v12o ?_ | refine st_v13v ?_ | refine st_v13o ?_ | refine st_v14v ?_ | refine st_v14o ?_ | refine st_v15v ?_ | refine st_v15o ?_ | refine st_C ?_ | refine st_cons ?_ | refine st_nil ?_ | refine st_ca ?_ | refine st_bval ?_ | refine st_exb ?_ | refine st_exi ?_ | refine st_exs ?_ | refine st_exl ?_ | refine st_exil ?_ | refine st_exit ?_ | refine st_exiz ?_ | refine st_seq ?_ | refine st_iT ?_ | refine st_iF ?_ | refine st_k0 ?_ | refine st_k1 ?_ | refine st_k2 ?_ | refine st_k3 ?_ | refine st_z0 ?_ | refine st_z1 ?_ | refine st_z2 ?_ | refine st_z3 ?_ | refine st_z4 ?_ | refine st_z5 ?_ | refine st_z6 ?_ | refine st_z7 ?_ | refine st_z8 ?_ | refine st_z9 ?_ | refine st_z10 ?_ | refine st_z11 ?_ | refine st_z12 ?_ | refine st_z13 ?_ | refine st_z14 ?_ | refine st_z15 ?_ | refine st_z16 ?_ | refine st_z17 ?_ | refine st_z18 ?_ | refine st_z19 ?_ | refine st_z20 ?_ | refine st_z21 ?_ | refine st_z22 ?_ | refine st_z23 ?_ | refine st_z24 ?_ | refine st_ret ?_ | refine st_rV ?_ | refine st_rO ?_ | refine st_vR ?_ | refine st_call ?_ | refine st_set ?_ | refine st_if ?_ | refine st_lt ?_ | refine st_le ?_ | refine st_gt ?_ | refine st_ge ?_ | refine st_eqi ?_ | refine st_nei ?_ | refine st_eqs ?_ | refine st_nes ?_ | refine st_add ?_ | refine st_sub ?_ | refine st_is ?_ | refine st_isnot ?_ | refine st_ix0l ?_ | refine st_ix0t ?_ | refine st_ix1l ?_ | refine st_ix1t ?_ | refine st_ix2l ?_ | refine st_ix2t ?_ | refine st_len0l ?_ | refine st_len0t ?_ | refine st_len1l ?_ | refine st_len1t ?_ | refine st_len2l ?_ | refine st_len2t ?_ | refine st_len3l ?_ | refine st_len3t ?_ | refine st_len4l ?_ | refine st_len4t ?_ | refine st_lenl ?_ | refine st_lent ?_ | refine st_abs ?_ | refine st_inti ?_ | refine st_intb ?_ | refine st_tupl ?_ | refine st_tupt ?_ | refine st_listl ?_ | refine st_listt ?_ | refine st_strs ?_ | refine st_max ?_ | refine st_min ?_ | refine st_gcd ?_ | refine st_neg ?_ | refine st_tup ?_ | refine st_lst ?_ | refine st_not ?_ | refine st_and ?_ | refine st_or ?_ | refine st_pnot ?_ | refine st_pand ?_ | refine st_por ?_ | refine st_pif ?_ | refine st_chain ?_ | refine st_isi ?_ | refine st_m1 ?_ | refine st_next ?_ | refine st_break ?_ | refine st_cont ?_ | refine st_retN ?_ | refine st_r0v ?_ | refine st_r0o ?_ | refine st_m0v ?_ | refine st_m0o ?_ | refine st_app0 ?_ | refine st_ext0 ?_ | refine st_gown0 ?_ | refine st_gext0 ?_ | refine st_d0 ?_ | refine st_p00 ?_ | refine st_p10 ?_ | refine st_p20 ?_ | refine st_w00 ?_ | refine st_w20 ?_ | refine st_r1v ?_ | refine st_r1o ?_ | refine st_m1v ?_ | refine st_m1o ?_ | refine st_app1 ?_ | refine st_ext1 ?_ | refine st_gown1 ?_ | refine st_gext1 ?_ | refine st_d1 ?_ | refine st_p01 ?_ | refine st_p11 ?_ | refine st_p21 ?_ | refine st_w01 ?_ | refine st_w21 ?_ | refine st_r2v ?_ | refine st_r2o ?_ | refine st_m2v ?_ | refine st_m2o ?_ | refine st_app2 ?_ | refine st_ext2 ?_ | refine st_gown2 ?_ | refine st_gext2 ?_ | refine st_d2 ?_ | refine st_p02 ?_ | refine st_p12 ?_ | refine st_p22 ?_ | refine st_w02 ?_ | refine st_w22 ?_ | refine st_r3v ?_ | refine st_r3o ?_ | refine st_m3v ?_ | refine st_m3o ?_ | refine st_app3 ?_ | refine st_ext3 ?_ | refine st_gown3 ?_ | refine st_gext3 ?_ | refine st_r4v ?_ | refine st_r4o ?_ | refine st_m4v ?_ | refine st_m4o ?_ | refine st_app4 ?_ | refine st_ext4 ?_ | refine st_gown4 ?_ | refine st_gext4 ?_ | refine st_r5v ?_ | refine st_r5o ?_ | refine st_m5v ?_ | refine st_m5o ?_ | refine st_app5 ?_ | refine st_ext5 ?_ | refine st_gown5 ?_ | refine st_gext5 ?_ | refine st_r6v ?_ | refine st_r6o ?_ | refine st_m6v ?_ | refine st_m6o ?_ | refine st_app6 ?_ | refine st_ext6 ?_ | refine st_gown6 ?_ | refine st_gext6 ?_ | refine st_r7v ?_ | refine st_r7o ?_ | refine st_m7v ?_ | refine st_m7o ?_ | refine st_app7 ?_ | refine st_ext7 ?_ | refine st_gown7 ?_ | refine st_gext7 ?_ | refine st_r8v ?_ | refine st_r8o ?_ | refine st_m8v ?_ | refine st_m8o ?_ | refine st_app8 ?_ | refine st_ext8 ?_ | refine st_gown8 ?_ | refine st_gext8 ?_ | refine st_r9v ?_ | refine st_r9o ?_ | refine st_m9v ?_ | refine st_m9o ?_ | refine st_app9 ?_ | refine st_ext9 ?_ | refine st_gown9 ?_ | refine st_gext9 ?_ | refine st_r10v ?_ | refine st_r10o ?_ | refine st_m10v ?_ | refine st_m10o ?_ | refine st_app10 ?_ | refine st_ext10 ?_ | refine st_gown10 ?_ | refine st_gext10 ?_ | refine st_r11v ?_ | refine st_r11o ?_ | refine st_m11v ?_ | refine st_m11o ?_ | refine st_app11 ?_ | refine st_ext11 ?_ | refine st_gown11 ?_ | refine st_gext11 ?_ | refine st_r12v ?_ | refine st_r12o ?_ | refine st_m12v ?_ | refine st_m12o ?_ | refine st_app12 ?_ | refine st_ext12 ?_ | refine st_gown12 ?_ | refine st_gext12 ?_ | refine st_r13v ?_ | refine st_r13o ?_ | refine st_m13v ?_ | refine st_m13o ?_ | refine st_app13 ?_ | refine st_ext13 ?_ | refine st_gown13 ?_ | refine st_gext13 ?_ | refine st_r14v ?_ | refine st_r14o ?_ | refine st_m14v ?_ | refine st_m14o ?_ | refine st_app14 ?_ | refine st_ext14 ?_ | refine st_gown14 ?_ | refine st_gext14 ?_ | refine st_r15v ?_ | refine st_r15o ?_ | refine st_m15v ?_ | refine st_m15o ?_ | refine st_app15 ?_ | refine st_ext15 ?_ | refine st_gown15 ?_ | refine st_gext15 ?_ | refine st_par ?_ | refine st_asg ?_ | refine st_ex ?_ | refine st_mR ?_ | refine st_mtup ?_ | refine st_mnil ?_ | refine st_mcons ?_ | refine st_for ?_ | refine st_imseq ?_ | refine st_iseq ?_ | refine st_imof ?_ | refine st_imr1 ?_ | refine st_ir1 ?_ | refine st_imr2 ?_ | refine st_enu ?_ | refine st_enl ?_ | refine st_ent ?_ | refine st_zip ?_ | refine st_zl ?_ | refine st_zt ?_ | refine st_lc ?_ | refine st_lc2 ?_ | refine st_oca ?_ | refine st_cat ?_ | refine st_excat ?_ | refine st_sll ?_ | refine st_sl ?_ | refine st_rev ?_ | refine st_nno ?_ | refine st_nat ?_ | refine st_tname ?_ | refine st_tt2 ?_ | refine st_mod (by omega) ?_ | refine st_fdv (by omega) (by omega) ?_ | refine st_mull (by omega) (by omega) ?_ | refine st_mulr (by omega) (by omega) ?_ | refine st_pow (by decide) (by decide) (by decide) ?_ | refine e_is_integer ?_ | refine e_common ?_ | refine e_is_fraction ?_ | refine e_law_common (by omega) (by omega) (by omega) (by omega) ?_) | (simp only [keepR, lfr, lf, lfs, frz, frz1, Rv.sl, Rv.d, updE, wipeE, fill_cc, fill_cn, fill_nn, dn, lfs_nL, lf_expoD, isI_dn, lfs_frD, isT_int_none, isT_int_bool, isT_int_int, isT_int_str, isT_int_list, isT_int_tuple, isT_bool_none, isT_bool_bool, isT_bool_int, isT_bool_str, isT_bool_list, isT_bool_tuple, isT_str_none, isT_str_bool, isT_str_int, isT_str_str, isT_str_list, isT_str_tuple, isT_list_none, isT_list_bool, isT_list_int, isT_list_str, isT_list_list, isT_list_tuple, isT_tuple_none, isT_tuple_bool, isT_tuple_int, isT_tuple_str, isT_tuple_list, isT_tuple_tuple, List.set_cons_zero, List.set_cons_succ, List.map_cons, List.map_nil, List.cons_append, List.nil_append, List.append_nil, Nat.reduceAdd, Nat.reduceSub, Nat.zero_add, Bool.and_true, Bool.true_and, Bool.and_self, Bool.not_true, Bool.not_false, Bool.and_false, Bool.false_and, Bool.or_false, Bool.false_or, Bool.or_true, Bool.true_or, if_true, reduceIte, isN, Bool.false_eq_true, if_false, Int.cast_ofNat_Int, Int.natCast_zero, Int.natCast_one, true_and, decide_true, decide_false, eq_self]))))
theorem h_coprime_base : ∀ (ds : List D) (Q : Rv → Prop), ds.length = 1 → f_coprime_base ds Q → p_coprime_base { nx := fun _ _ => Q (.val .none), rt := fun _ r => Q r } 0 (PL.fill ["numbers", "one", "part"] (ds.map Sl.val)) := by
  rintro ds Q hl ⟨ps, rfl, hp, hz, h⟩
  unfold p_coprime_base
  trivial
  refine ⟨ps, rfl, hp, hz, ?_⟩
  trivial
  have e : (ps.map frD).flatMap (fun d => match d with | .tuple xs => xs | _ => []) = nL (partsOf ps) := by
    clear hp hz h hl
    induction ps with
    | nil => rfl
    | cons p ps ih =>
      rw [List.map_cons, List.flatMap_cons, ih]
      unfold partsOf
      rw [List.flatMap_cons, nL_app]
      rfl
  have len : ∀ l : List (Nat × Nat), (partsOf l).length = 2 * l.length := fun l => by
    induction l with
    | nil => rfl
    | cons p l ih =>
      unfold partsOf at ih ⊢
      rw [List.flatMap_cons, List.length_append, ih]
      show 2 + _ = 2 * (l.length + 1)
      omega
  refine comp2_go (fun d => match d with | .tuple xs => xs | _ => []) (fun d => d) _ _ _ (fun d hd => ?_) ?_ ?_
  · obtain ⟨p, hpm, rfl⟩ := List.mem_map.mp hd
    refine ⟨_, [dn p.1, dn p.2], rfl, fun R hR => ?_, fun x hx => ⟨_, rfl, fun R hR => ?_⟩, rfl⟩
    · unfold frD
      trivial
      exact hR
    · unfold frD
      trivial
      exact hR
  · rw [e, nL_len, len, List.length_nil]
    exact line_le (by omega)
  · rw [e, List.nil_append]
    trivial
    refine ⟨partsOf ps, .inl rfl, fun n hn => ?_, by rw [len]; omega, fun B hB => ?_⟩
    · unfold partsOf at hn
      obtain ⟨p, hpm, hx⟩ := List.mem_flatMap.mp hn
      have fr := hp p hpm
      have a1 := fr.a1
      have a2 := fr.a2
      have b1 := fr.b1
      have b2 := fr.b2
      simp only [List.mem_cons, List.not_mem_nil, or_false] at hx
      rcases hx with rfl | rfl <;> omega
    · trivial
      exact h B hB
def subG : D → D
  | .tuple [.int a, .int c] => .int (a - c)
  | d => d
theorem zip_nL : ∀ (xs ys : List Nat), (zipD (nL xs) (nL ys)).map subG = diffs xs ys
  | [], _ => by unfold diffs; rfl
  | x :: xs, [] => by unfold diffs; rfl
  | x :: xs, y :: ys => by
    have ih := zip_nL xs ys
    unfold diffs at ih ⊢
    show subG (.tuple [dn x, dn y]) :: (zipD (nL xs) (nL ys)).map subG = _
    rw [ih]
    rfl
theorem zip_mem : ∀ {xs ys : List Nat} {d : D}, d ∈ zipD (nL xs) (nL ys) → ∃ a c : Nat, d = .tuple [.int a, .int c]
  | [], _, _, h => by cases h
  | x :: xs, [], _, h => by cases h
  | x :: xs, y :: ys, d, h => by
    have h' : d ∈ PyData.tuple [dn x, dn y] :: zipD (nL xs) (nL ys) := h
    rcases List.mem_cons.mp h' with rfl | h
    · exact ⟨x, y, rfl⟩
    · exact zip_mem h
theorem shaped_expo2 (B B' : List Nat) (n m : Nat) : SeqAt.shaped (.tuple [expoD B n, expoD B' m]) = true := by
  have key : ∀ (B : List Nat) (n : Nat), (expoD B n).canLay0 = true ∧ (expoD B n).depth ≤ 1 := fun B n => by
    unfold expoD
    split
    · obtain ⟨a1, a2⟩ := flats_lay (ds := nL (splitAll B n).1) fun d hd => flat_nL hd
      exact ⟨by simp [PyData.canLay0, a1], by simp [PyData.depth, a2]⟩
    · exact ⟨by simp [PyData.canLay0], by simp [PyData.depth]⟩
  obtain ⟨a1, a2⟩ := key B n
  obtain ⟨c1, c2⟩ := key B' m
  have h3 : max (expoD B n).depth (max (expoD B' m).depth 0) + 1 ≤ 64 := by omega
  unfold SeqAt.shaped
  rw [Bool.and_eq_true]
  refine ⟨by simp [PyData.canLay0, PyData.canLayAll0, a1, c1], decide_eq_true ?_⟩
  simp only [PyData.depth, PyData.depthAll]
  exact h3
theorem h_exponents_over : ∀ (ds : List D) (Q : Rv → Prop), ds.length = 2 → f_exponents_over ds Q → p_exponents_over { nx := fun _ _ => Q (.val .none), rt := fun _ r => Q r } 0 (PL.fill ["base", "number", "top", "low", "more", "less", "one"] (ds.map Sl.val)) := by
  rintro ds Q hl ⟨B, p, rfl, cb, srt, hB, hz, fr, h⟩
  unfold p_exponents_over
  trivial
  refine comp_all (fun _ => .bool true) (fun d hd => ?_) (line_le (by rw [nL_len]; omega)) ?_
  · obtain ⟨n, hn, rfl⟩ := mem_nL hd
    refine ⟨_, rfl, fun R hR => ?_⟩
    trivial
    exact hR
  trivial
  refine oAll_map (f := fun _ => true) ?_
  rw [show ((nL B).all fun _ => true) = true by simp]
  trivial
  refine comp_all (fun _ => .bool true) (fun d hd => ?_) (line_le (by rw [nL_len]; omega)) ?_
  · obtain ⟨n, hn, rfl⟩ := mem_nL hd
    refine ⟨_, rfl, fun R hR => ?_⟩
    trivial
    have := cb.two n hn
    rw [decide_eq_true (by omega : (1 : Int) < n)]
    exact hR
  trivial
  refine oAll_map (f := fun _ => true) ?_
  rw [show ((nL B).all fun _ => true) = true by simp]
  trivial
  have b1 : ∀ n ∈ B, 1 ≤ n ∧ n < 2 ^ 20 := fun n hn => ⟨by have := cb.two n hn; omega, hB n hn⟩
  have b2 : ∀ n ∈ B, 2 ≤ n ∧ n < 2 ^ 20 := fun n hn => ⟨cb.two n hn, hB n hn⟩
  refine ⟨B, .inr rfl, b1, hz, fun B' hB' => ?_⟩
  have eB : B = B' := (IsB.self cb srt).uniq hB' fun _ => Iff.rfl
  subst eB
  trivial
  refine ⟨shaped_list fun d hd => flat_nL hd, shaped_list fun d hd => flat_nL hd, ?_⟩
  rw [eqv_nL, decide_eq_true rfl]
  trivial
  refine e_told fr ?_
  unfold frD
  trivial
  have a1 := fr.a1
  rw [decide_eq_false (by omega : ¬ (p.1 : Int) < 1)]
  trivial
  refine ⟨B, p.1, rfl, fr.a1, fr.a2, b2, hz, ?_⟩
  trivial
  refine ⟨B, p.2, rfl, fr.b1, fr.b2, b2, hz, ?_⟩
  trivial
  refine ⟨shaped_none, shaped_expo2 _ _ _ _, ?_⟩
  unfold overD at h
  by_cases h1 : (splitAll B p.1).2 = 1
  · by_cases h2 : (splitAll B p.2).2 = 1
    · rw [if_pos ⟨h1, h2⟩] at h
      unfold expoD
      rw [if_pos h1, if_pos h2, show ([PyData.tuple (nL (splitAll B p.1).1), .tuple (nL (splitAll B p.2).1)].any fun z => PyData.eqv z .none) = false by simp [PyData.eqv]]
      trivial
      refine comp_all subG (fun d hd => ?_) (line_le (by rw [zipD_len, nL_len, nL_len, splitAll_len, splitAll_len]; omega)) ?_
      · obtain ⟨x, y, rfl⟩ := zip_mem hd
        refine ⟨_, rfl, fun R hR => ?_⟩
        trivial
        exact hR
      · rw [zip_nL]
        trivial
        exact h
    · rw [if_neg (fun z => h2 z.2)] at h
      unfold expoD
      rw [if_pos h1, if_neg h2, show ([PyData.tuple (nL (splitAll B p.1).1), .none].any fun z => PyData.eqv z .none) = true by simp [PyData.eqv]]
      trivial
      exact h
  · rw [if_neg (fun z => h1 z.1)] at h
    unfold expoD
    rw [if_neg h1, show ([PyData.none, if (splitAll B p.2).2 = 1 then .tuple (nL (splitAll B p.2).1) else .none].any fun z => PyData.eqv z .none) = true by simp [PyData.eqv]]
    trivial
    exact h
end K20

set_option Elab.async false
set_option linter.all false
set_option maxRecDepth 100000
set_option maxHeartbeats 4000000
namespace K20
open PySem PySem.Spec PyProof.Rows L2 PL
open Classical
local macro_rules | `(tactic| trivial) => `(tactic| (repeat (first | (with_reducible first | refine st_bin ?_ | refine st_v0v ?_ | refine st_v0o ?_ | refine st_v1v ?_ | refine st_v1o ?_ | refine st_v2v ?_ | refine st_v2o ?_ | refine st_v3v ?_ | refine st_v3o ?_ | refine st_v4v ?_ | refine st_v4o ?_ | refine st_v5v ?_ | refine st_v5o ?_ | refine st_v6v ?_ | refine st_v6o ?_ | refine st_v7v ?_ | refine st_v7o ?_ | refine st_v8v ?_ | refine st_v8o ?_ | refine st_v9v ?_ | refine st_v9o ?_ | refine st_v10v ?_ | refine st_v10o ?_ | refine st_v11v ?_ | refine st_v11o ?_ | refine st_v12v ?_ | refine st_v12o ?_ | refine st_v13v ?_ | refine st_v13o ?_ | refine st_v14v ?_ | refine st_v14o ?_ | refine st_v15v ?_ | refine st_v15o ?_ | refine st_C ?_ | refine st_cons ?_ | refine st_nil ?_ | refine st_ca ?_ | refine st_bval ?_ | refine st_exb ?_ | refine st_exi ?_ | refine st_exs ?_ | refine st_exl ?_ | refine st_exil ?_ | refine st_exit ?_ | refine st_exiz ?_ | refine st_seq ?_ | refine st_iT ?_ | refine st_iF ?_ | refine st_k0 ?_ | refine st_k1 ?_ | refine st_k2 ?_ | refine st_k3 ?_ | refine st_z0 ?_ | refine st_z1 ?_ | refine st_z2 ?_ | refine st_z3 ?_ | refine st_z4 ?_ | refine st_z5 ?_ | refine st_z6 ?_ | refine st_z7 ?_ | refine st_z8 ?_ | refine st_z9 ?_ | refine st_z10 ?_ | refine st_z11 ?_ | refine st_z12 ?_ | refine st_z13 ?_ | refine st_z14 ?_ | refine st_z15 ?_ | refine st_z16 ?_ | refine st_z17 ?_ | refine st_z18 ?_ | refine st_z19 ?_ | refine st_z20 ?_ | refine st_z21 ?_ | refine st_z22 ?_ | refine st_z23 ?_ | refine st_z24 ?_ | refine st_ret ?_ | refine st_rV ?_ | refine st_rO ?_ | refine st_vR ?_ | refine st_call ?_ | refine st_set ?_ | refine st_if ?_ | refine st_lt ?_ | refine st_le ?_ | refine st_gt ?_ | refine st_ge ?_ | refine st_eqi ?_ | refine st_nei ?_ | refine st_eqs ?_ | refine st_nes ?_ | refine st_add ?_ | refine st_sub ?_ | refine st_is ?_ | refine st_isnot ?_ | refine st_ix0l ?_ | refine st_ix0t ?_ | refine st_ix1l ?_ | refine st_ix1t ?_ | refine st_ix2l ?_ | refine st_ix2t ?_ | refine st_len0l ?_ | refine st_len0t ?_ | refine st_len1l ?_ | refine st_len1t ?_ | refine st_len2l ?_ | refine st_len2t ?_ | refine st_len3l ?_ | refine st_len3t ?_ | refine st_len4l ?_ | refine st_len4t ?_ | refine st_lenl ?_ | refine st_lent ?_ | refine st_abs ?_ | refine st_inti ?_ | refine st_intb ?_ | refine st_tupl ?_ | refine st_tupt ?_ | refine st_listl ?_ | refine st_listt ?_ | refine st_strs ?_ | refine st_max ?_ | refine st_min ?_ | refine st_gcd ?_ | refine st_neg ?_ | refine st_tup ?_ | refine st_lst ?_ | refine st_not ?_ | refine st_and ?_ | refine st_or ?_ | refine st_pnot ?_ | refine st_pand ?_ | refine st_por ?_ | refine st_pif ?_ | refine st_chain ?_ | refine st_isi ?_ | refine st_m1 ?_ | refine st_next ?_ | refine st_break ?_ | refine st_cont ?_ | refine st_retN ?_ | refine st_r0v ?_ | refine st_r0o ?_ | refine st_m0v ?_ | refine st_m0o ?_ | refine st_app0 ?_ | refine st_ext0 ?_ | refine st_gown0 ?_ | refine st_gext0 ?_ | refine st_d0 ?_ | refine st_p00 ?_ | refine st_p10 ?_ | refine st_p20 ?_ | refine st_w00 ?_ | refine st_w20 ?_ | refine st_r1v ?_ | refine st_r1o ?_ | refine st_m1v ?_ | refine st_m1o ?_ | refine st_app1 ?_ | refine st_ext1 ?_ | refine st_gown1 ?_ | refine st_gext1 ?_ | refine st_d1 ?_ | refine st_p01 ?_ | refine st_p11 ?_ | refine st_p21 ?_ | refine st_w01 ?_ | refine st_w21 ?_ | refine st_r2v ?_ | refine st_r2o ?_ | refine st_m2v ?_ | refine st_m2o ?_ | refine st_app2 ?_ | refine st_ext2 ?_ | refine st_gown2 ?_ | refine st_gext2 ?_ | refine st_d2 ?_ | refine st_p02 ?_ | refine st_p12 ?_ | refine st_p22 ?_ | refine st_w02 ?_ | refine st_w22 ?_ | refine st_r3v ?_ | refine st_r3o ?_ | refine st_m3v ?_ | refine st_m3o ?_ | refine st_app3 ?_ | refine st_ext3 ?_ | refine st_gown3 ?_ | refine st_gext3 ?_ | refine st_r4v ?_ | refine st_r4o ?_ | refine st_m4v ?_ | refine st_m4o ?_ | refine st_app4 ?_ | refine st_ext4 ?_ | refine st_gown4 ?_ | refine st_gext4 ?_ | refine st_r5v ?_ | refine st_r5o ?_ | refine st_m5v ?_ | refine st_m5o ?_ | refine st_app5 ?_ | refine st_ext5 ?_ | refine st_gown5 ?_ | refine st_gext5 ?_ | refine st_r6v ?_ | refine st_r6o ?_ | refine st_m6v ?_ | refine st_m6o ?_ | refine st_app6 ?_ | refine st_ext6 ?_ | refine st_gown6 ?_ | refine st_gext6 ?_ | refine st_r7v ?_ | refine st_r7o ?_ | refine st_m7v ?_ | refine st_m7o ?_ | refine st_app7 ?_ | refine st_ext7 ?_ | refine st_gown7 ?_ | refine st_gext7 ?_ | refine st_r8v ?_ | refine st_r8o ?_ | refine st_m8v ?_ | refine st_m8o ?_ | refine st_app8 ?_ | refine st_ext8 ?_ | refine st_gown8 ?_ | refine st_gext8 ?_ | refine st_r9v ?_ | refine st_r9o ?_ | refine st_m9v ?_ | refine st_m9o ?_ | refine st_app9 ?_ | refine st_ext9 ?_ | refine st_gown9 ?_ | refine st_gext9 ?_ | refine st_r10v ?_ | refine st_r10o ?_ | refine st_m10v ?_ | refine st_m10o ?_ | refine st_app10 ?_ | refine st_ext10 ?_ | refine st_gown10 ?_ | refine st_gext10 ?_ | refine st_r11v ?_ | refine st_r11o ?_ | refine st_m11v ?_ | refine st_m11o ?_ | refine st_app11 ?_ | refine st_ext11 ?_ | refine st_gown11 ?_ | refine st_gext11 ?_ | refine st_r12v ?_ | refine st_r12o ?_ | refine st_m12v ?_ | refine st_m12o ?_ | refine st_app12 ?_ | refine st_ext12 ?_ | refine st_gown12 ?_ | refine st_gext12 ?_ | refine st_r13v ?_ | refine st_r13o ?_ | refine st_m13v ?_ | refine st_m13o ?_ | refine st_app13 ?_ | refine st_ext13 ?_ | refine st_gown13 ?_ | refine st_gext13 ?_ | refine st_r14v ?_ | refine st_r14o ?_ | refine st_m14v ?_ | refine st_m14o ?_ | refine st_app14 ?_ | refine st_ext14 ?_ | refine st_gown14 ?_ | refine st_gext14 ?_ | refine st_r15v ?_ | refine st_r15o ?_ | refine st_m15v ?_ | refine st_m15o ?_ | refine st_app15 ?_ | refine st_ext15 ?_ | refine st_gown15 ?_ | refine st_gext15 ?_ | refine st_par ?_ | refine st_asg ?_ | refine st_ex ?_ | refine st_mR ?_ | refine st_mtup ?_ | refine st_mnil ?_ | refine st_mcons ?_ | refine st_for ?_ | refine st_imseq ?_ | refine st_iseq ?_ | refine st_imof ?_ | refine st_imr1 ?_ | refine st_ir1 ?_ | refine st_imr2 ?_ | refine st_enu ?_ | refine st_enl ?_ | refine st_ent ?_ | refine st_zip ?_ | refine st_zl ?_ | refine st_zt ?_ | refine st_lc ?_ | refine st_lc2 ?_ | refine st_oca ?_ | refine st_cat ?_ | refine st_excat ?_ | refine st_sll ?_ | refine st_sl ?_ | refine st_rev ?_ | refine st_nno ?_ | refine st_nat ?_ | refine st_tname ?_ | refine st_tt2 ?_ | refine st_mod (by omega) ?_ | refine st_fdv (by omega) (by omega) ?_ | refine st_mull (by omega) (by omega) ?_ | refine st_mulr (by omega) (by omega) ?_ | refine st_pow (by decide) (by decide) (by decide) ?_ | refine e_is_integer ?_ | refine e_common ?_ | refine e_is_fraction ?_ | refine e_law_common (by omega) (by omega) (by omega) (by omega) ?_) | (simp only [keepR, lfr, lf, lfs, frz, frz1, Rv.sl, Rv.d, updE, wipeE, fill_cc, fill_cn, fill_nn, dn, lfs_nL, lf_expoD, isI_dn, lfs_frD, isT_int_none, isT_int_bool, isT_int_int, isT_int_str, isT_int_list, isT_int_tuple, isT_bool_none, isT_bool_bool, isT_bool_int, isT_bool_str, isT_bool_list, isT_bool_tuple, isT_str_none, isT_str_bool, isT_str_int, isT_str_str, isT_str_list, isT_str_tuple, isT_list_none, isT_list_bool, isT_list_int, isT_list_str, isT_list_list, isT_list_tuple, isT_tuple_none, isT_tuple_bool, isT_tuple_int, isT_tuple_str, isT_tuple_list, isT_tuple_tuple, List.set_cons_zero, List.set_cons_succ, List.map_cons, List.map_nil, List.cons_append, List.nil_append, List.append_nil, Nat.reduceAdd, Nat.reduceSub, Nat.zero_add, Bool.and_true, Bool.true_and, Bool.and_self, Bool.not_true, Bool.not_false, Bool.and_false, Bool.false_and, Bool.or_false, Bool.false_or, Bool.or_true, Bool.true_or, if_true, reduceIte, isN, Bool.false_eq_true, if_false, Int.cast_ofNat_Int, Int.natCast_zero, Int.natCast_one, true_and, decide_true, decide_false, eq_self]))))
theorem gcd_turn (a c : Nat) : Nat.gcd c (a % c) = Nat.gcd a c := by rw [Nat.gcd_comm a c, Nat.gcd_rec c a, Nat.gcd_comm]
theorem h_law_common : ∀ (ds : List D) (Q : Rv → Prop), ds.length = 2 → f_law_common ds Q → p_law_common { nx := fun _ _ => Q (.val .none), rt := fun _ r => Q r } 0 (PL.fill ["one", "other"] (ds.map Sl.val)) := by
  intro ds Q hl h
  match ds, h with
  | [.int a, .int c], ⟨h0, h1, h2, h3, h⟩ =>
    obtain ⟨x, rfl⟩ : ∃ x : Nat, a = x := ⟨a.toNat, by omega⟩
    obtain ⟨y, rfl⟩ : ∃ y : Nat, c = y := ⟨c.toNat, by omega⟩
    unfold p_law_common
    trivial
    unfold sWhile
    refine ⟨fun μ k e => k = 0 ∧ ∃ a c : Nat, e = [.val (.int a), .val (.int c)] ∧ μ = c ∧ Nat.gcd a c = Nat.gcd x y, ⟨y, rfl, x, y, rfl, rfl, rfl⟩, ?_⟩
    rintro μ k e ⟨rfl, a, c, rfl, rfl, hg⟩
    trivial
    by_cases z : μ = 0
    · rw [decide_eq_true (by omega : (μ : Int) = 0)]
      trivial
      subst z
      rw [Nat.gcd_zero_right] at hg
      subst hg
      exact h
    · rw [decide_eq_false (by omega : ¬ (μ : Int) = 0)]
      trivial
      refine ⟨a % μ, Nat.mod_lt _ (by omega), μ, a % μ, ?_, rfl, ?_⟩
      · rw [Int.natCast_emod]
      · rw [gcd_turn]; exact hg
theorem five (z : Int) (h : 0 ≤ z) : ∃ p : Int, atI [PyData.int 2147483647, .int 2147483629, .int 2147483587, .int 2147483579, .int 2147483563] (z % 5) = some (.int p) ∧ 1 ≤ p ∧ p < 4294967296 := by
  obtain ⟨k, hk⟩ : ∃ k : Nat, z % 5 = k := ⟨(z % 5).toNat, by omega⟩
  have k5 : k < 5 := by omega
  rw [hk, atI_ofNat]
  match k, k5 with
  | 0, _ => exact ⟨_, rfl, by decide, by decide⟩
  | 1, _ => exact ⟨_, rfl, by decide, by decide⟩
  | 2, _ => exact ⟨_, rfl, by decide, by decide⟩
  | 3, _ => exact ⟨_, rfl, by decide, by decide⟩
  | 4, _ => exact ⟨_, rfl, by decide, by decide⟩
theorem small_sq {a c : Int} (h0 : 0 ≤ a) (h1 : a ≤ 1048576) (h2 : 0 ≤ c) (h3 : c ≤ 1048576) : 0 ≤ 176303 * a * c ∧ 176303 * a * c ≤ 193848198510280704 + 1000000000000000000 := by
  have e : 176303 * a * c = 176303 * (a * c) := by rw [Int.mul_assoc]
  have p1 : 0 ≤ a * c := Int.mul_nonneg h0 h2
  have p2 : a * c ≤ 1048576 * 1048576 := Int.mul_le_mul h1 h3 h2 (by decide)
  rw [e]
  omega
theorem h_law_take : ∀ (n : Nat) (ds : List D) (Q : Nat → Rv → Prop), ds.length = 1 → f_law_take n ds Q → p_law_take { nx := fun n' _ => Q n' (.val .none), rt := Q } n (PL.fill ["pot", "upto", "digit", "prime", "blend"] (.pot :: ds.map Sl.val)) := by
  intro n ds Q hl h
  match ds, h with
  | [.int u], ⟨h0, h1, h2, h⟩ =>
    have hM : (n : Int) + 1 ≤ 1048576 := by unfold Most at h2; omega
    have fin : ∀ (x : Int) (n' : Nat), n' ≤ n + 1 → Q n' (.val (.int (x % u))) := fun x n' hn => by
      have a1 := Int.emod_nonneg x (by omega : u ≠ 0)
      have a2 := Int.emod_lt_of_pos x h0
      have := h (x % u).toNat n' (by omega) hn
      unfold dn at this
      rwa [Int.toNat_of_nonneg a1] at this
    unfold p_law_take
    trivial
    intro x x0 x1
    trivial
    by_cases c : 0 < x
    · rw [decide_eq_true c]
      trivial
      intro y y0 y1
      trivial
      intro w w0 w1
      trivial
      refine ⟨Int.ediv_nonneg w0 (by omega), Int.lt_of_le_of_lt (Int.ediv_le_self _ w0) w1, ?_⟩
      trivial
      exact fin y n (by omega)
    · rw [decide_eq_false c]
      trivial
      intro z z0 z1
      trivial
      refine ⟨z + 1, n + 1, rfl, by omega, by omega, ?_⟩
      trivial
      intro z2 z20 z21
      trivial
      obtain ⟨p, hp, p1, p2⟩ := five z2 z20
      refine ⟨.int p, hp, ?_⟩
      trivial
      intro y y0 y1
      trivial
      intro a a0 a1
      trivial
      intro b b0 b1
      trivial
      obtain ⟨q1, q2⟩ := small_sq a0 (by omega) b0 (by omega)
      refine ⟨⟨by decide, by decide, by omega⟩, ?_⟩
      trivial
      have r1 := Int.emod_nonneg ((y + 176303 * a * b + 58787) ^ (3 : Int).toNat) (by omega : p ≠ 0)
      have r2 := Int.emod_lt_of_pos ((y + 176303 * a * b + 58787) ^ (3 : Int).toNat) (by omega : 0 < p)
      generalize (y + 176303 * a * b + 58787) ^ (3 : Int).toNat % p = bl at *
      trivial
      intro c c0 c1
      trivial
      exact fin _ _ (Nat.le_refl _)
theorem h_law_of : ∀ (n : Nat) (ds : List D) (Q : Nat → Rv → Prop), ds.length = 1 → f_law_of n ds Q → p_law_of { nx := fun n' _ => Q n' (.val .none), rt := Q } n (PL.fill ["pot", "some"] (.pot :: ds.map Sl.val)) := by
  rintro n ds Q hl ⟨xs, hds, hne, hz, hn, h⟩
  have x0 : 0 < xs.length := List.length_pos_iff.mpr hne
  have key : ∀ r : Nat, (r : Int) < (xs.length : Int) → ∀ n', n' ≤ n + 1 → ∃ d, atI xs (r : Int) = some d ∧ Q n' (.val d) := fun r hr n' hn' => by
    rw [atI_ofNat]
    have lt : r < xs.length := by omega
    exact ⟨xs[r], List.getElem?_eq_getElem lt, h _ (List.getElem_mem lt) n' hn'⟩
  unfold p_law_of
  rcases hds with rfl | rfl
  · trivial
    refine ⟨by omega, by omega, hn, fun r n' hr hn' => ?_⟩
    trivial
    exact key r hr n' hn'
  · trivial
    refine ⟨by omega, by omega, hn, fun r n' hr hn' => ?_⟩
    trivial
    exact key r hr n' hn'
theorem h_law_reduced : ∀ (ds : List D) (Q : Rv → Prop), ds.length = 2 → f_law_reduced ds Q → p_law_reduced { nx := fun _ _ => Q (.val .none), rt := fun _ r => Q r } 0 (PL.fill ["top", "low", "one", "other", "by"] (ds.map Sl.val)) := by
  intro ds Q hl h
  match ds, h with
  | [.int t, .int l], ⟨l0, t1, l1, h⟩ =>
    unfold p_law_reduced
    trivial
    unfold sWhile
    refine ⟨fun μ k e => k = 0 ∧ ∃ a c : Nat, e = [.val (.int t), .val (.int l), .val (.int a), .val (.int c), .un] ∧ μ = c ∧ Nat.gcd a c = Nat.gcd t.natAbs l.natAbs, ⟨l.natAbs, rfl, t.natAbs, l.natAbs, rfl, rfl, rfl⟩, ?_⟩
    rintro μ k e ⟨rfl, a, c, rfl, rfl, hg⟩
    trivial
    by_cases z : μ = 0
    · rw [decide_eq_true (by omega : (μ : Int) = 0)]
      trivial
      rw [decide_eq_true l0]
      trivial
      subst z
      rw [Nat.gcd_zero_right] at hg
      have g1 : 0 < Nat.gcd t.natAbs l.natAbs := Nat.gcd_pos_of_pos_right _ (by omega)
      have g2 : Nat.gcd t.natAbs l.natAbs ≤ l.natAbs := Nat.gcd_le_right _ (by omega)
      have lg : (Nat.gcd t.natAbs l.natAbs).log2 < 9000 := by
        have : (Nat.gcd t.natAbs l.natAbs).log2 < 200 := (Nat.log2_lt (by omega)).mpr (by omega)
        omega
      rw [hg]
      generalize Nat.gcd t.natAbs l.natAbs = g at *
      refine ⟨⟨by omega, by rw [Int.natAbs_natCast]; exact lg⟩, ?_⟩
      trivial
      refine ⟨⟨by omega, by rw [Int.natAbs_natCast]; exact lg⟩, ?_⟩
      trivial
      exact h
    · rw [decide_eq_false (by omega : ¬ (μ : Int) = 0)]
      trivial
      refine ⟨a % μ, Nat.mod_lt _ (by omega), μ, a % μ, ?_, rfl, ?_⟩
      · rw [Int.natCast_emod]
      · rw [gcd_turn]; exact hg
end K20

set_option Elab.async false
set_option linter.all false
set_option maxRecDepth 100000
set_option maxHeartbeats 4000000
namespace K20
open PySem PySem.Spec PyProof.Rows L2 PL
open Classical
local macro_rules | `(tactic| trivial) => `(tactic| (repeat (first | (with_reducible first | refine st_bin ?_ | refine st_v0v ?_ | refine st_v0o ?_ | refine st_v1v ?_ | refine st_v1o ?_ | refine st_v2v ?_ | refine st_v2o ?_ | refine st_v3v ?_ | refine st_v3o ?_ | refine st_v4v ?_ | refine st_v4o ?_ | refine st_v5v ?_ | refine st_v5o ?_ | refine st_v6v ?_ | refine st_v6o ?_ | refine st_v7v ?_ | refine st_v7o ?_ | refine st_v8v ?_ | refine st_v8o ?_ | refine st_v9v ?_ | refine st_v9o ?_ | refine st_v10v ?_ | refine st_v10o ?_ | refine st_v11v ?_ | refine st_v11o ?_ | refine st_v12v ?_ | refine st_v12o ?_ | refine st_v13v ?_ | refine st_v13o ?_ | refine st_v14v ?_ | refine st_v14o ?_ | refine st_v15v ?_ | refine st_v15o ?_ | refine st_C ?_ | refine st_cons ?_ | refine st_nil ?_ | refine st_ca ?_ | refine st_bval ?_ | refine st_exb ?_ | refine st_exi ?_ | refine st_exs ?_ | refine st_exl ?_ | refine st_exil ?_ | refine st_exit ?_ | refine st_exiz ?_ | refine st_seq ?_ | refine st_iT ?_ | refine st_iF ?_ | refine st_k0 ?_ | refine st_k1 ?_ | refine st_k2 ?_ | refine st_k3 ?_ | refine st_z0 ?_ | refine st_z1 ?_ | refine st_z2 ?_ | refine st_z3 ?_ | refine st_z4 ?_ | refine st_z5 ?_ | refine st_z6 ?_ | refine st_z7 ?_ | refine st_z8 ?_ | refine st_z9 ?_ | refine st_z10 ?_ | refine st_z11 ?_ | refine st_z12 ?_ | refine st_z13 ?_ | refine st_z14 ?_ | refine st_z15 ?_ | refine st_z16 ?_ | refine st_z17 ?_ | refine st_z18 ?_ | refine st_z19 ?_ | refine st_z20 ?_ | refine st_z21 ?_ | refine st_z22 ?_ | refine st_z23 ?_ | refine st_z24 ?_ | refine st_ret ?_ | refine st_rV ?_ | refine st_rO ?_ | refine st_vR ?_ | refine st_call ?_ | refine st_set ?_ | refine st_if ?_ | refine st_lt ?_ | refine st_le ?_ | refine st_gt ?_ | refine st_ge ?_ | refine st_eqi ?_ | refine st_nei ?_ | refine st_eqs ?_ | refine st_nes ?_ | refine st_add ?_ | refine st_sub ?_ | refine st_is ?_ | refine st_isnot ?_ | refine st_ix0l ?_ | refine st_ix0t ?_ | refine st_ix1l ?_ | refine st_ix1t ?_ | refine st_ix2l ?_ | refine st_ix2t ?_ | refine st_len0l ?_ | refine st_len0t ?_ | refine st_len1l ?_ | refine st_len1t ?_ | refine st_len2l ?_ | refine st_len2t ?_ | refine st_len3l ?_ | refine st_len3t ?_ | refine st_len4l ?_ | refine st_len4t ?_ | refine st_lenl ?_ | refine st_lent ?_ | refine st_abs ?_ | refine st_inti ?_ | refine st_intb ?_ | refine st_tupl ?_ | refine st_tupt ?_ | refine st_listl ?_ | refine st_listt ?_ | refine st_strs ?_ | refine st_max ?_ | refine st_min ?_ | refine st_gcd ?_ | refine st_neg ?_ | refine st_tup ?_ | refine st_lst ?_ | refine st_not ?_ | refine st_and ?_ | refine st_or ?_ | refine st_pnot ?_ | refine st_pand ?_ | refine st_por ?_ | refine st_pif ?_ | refine st_chain ?_ | refine st_isi ?_ | refine st_m1 ?_ | refine st_next ?_ | refine st_break ?_ | refine st_cont ?_ | refine st_retN ?_ | refine st_r0v ?_ | refine st_r0o ?_ | refine st_m0v ?_ | refine st_m0o ?_ | refine st_app0 ?_ | refine st_ext0 ?_ | refine st_gown0 ?_ | refine st_gext0 ?_ | refine st_d0 ?_ | refine st_p00 ?_ | refine st_p10 ?_ | refine st_p20 ?_ | refine st_w00 ?_ | refine st_w20 ?_ | refine st_r1v ?_ | refine st_r1o ?_ | refine st_m1v ?_ | refine st_m1o ?_ | refine st_app1 ?_ | refine st_ext1 ?_ | refine st_gown1 ?_ | refine st_gext1 ?_ | refine st_d1 ?_ | refine st_p01 ?_ | refine st_p11 ?_ | refine st_p21 ?_ | refine st_w01 ?_ | refine st_w21 ?_ | refine st_r2v ?_ | refine st_r2o ?_ | refine st_m2v ?_ | refine st_m2o ?_ | refine st_app2 ?_ | refine st_ext2 ?_ | refine st_gown2 ?_ | refine st_gext2 ?_ | refine st_d2 ?_ | refine st_p02 ?_ | refine st_p12 ?_ | refine st_p22 ?_ | refine st_w02 ?_ | refine st_w22 ?_ | refine st_r3v ?_ | refine st_r3o ?_ | refine st_m3v ?_ | refine st_m3o ?_ | refine st_app3 ?_ | refine st_ext3 ?_ | refine st_gown3 ?_ | refine st_gext3 ?_ | refine st_r4v ?_ | refine st_r4o ?_ | refine st_m4v ?_ | refine st_m4o ?_ | refine st_app4 ?_ | refine st_ext4 ?_ | refine st_gown4 ?_ | refine st_gext4 ?_ | refine st_r5v ?_ | refine st_r5o ?_ | refine st_m5v ?_ | refine st_m5o ?_ | refine st_app5 ?_ | refine st_ext5 ?_ | refine st_gown5 ?_ | refine st_gext5 ?_ | refine st_r6v ?_ | refine st_r6o ?_ | refine st_m6v ?_ | refine st_m6o ?_ | refine st_app6 ?_ | refine st_ext6 ?_ | refine st_gown6 ?_ | refine st_gext6 ?_ | refine st_r7v ?_ | refine st_r7o ?_ | refine st_m7v ?_ | refine st_m7o ?_ | refine st_app7 ?_ | refine st_ext7 ?_ | refine st_gown7 ?_ | refine st_gext7 ?_ | refine st_r8v ?_ | refine st_r8o ?_ | refine st_m8v ?_ | refine st_m8o ?_ | refine st_app8 ?_ | refine st_ext8 ?_ | refine st_gown8 ?_ | refine st_gext8 ?_ | refine st_r9v ?_ | refine st_r9o ?_ | refine st_m9v ?_ | refine st_m9o ?_ | refine st_app9 ?_ | refine st_ext9 ?_ | refine st_gown9 ?_ | refine st_gext9 ?_ | refine st_r10v ?_ | refine st_r10o ?_ | refine st_m10v ?_ | refine st_m10o ?_ | refine st_app10 ?_ | refine st_ext10 ?_ | refine st_gown10 ?_ | refine st_gext10 ?_ | refine st_r11v ?_ | refine st_r11o ?_ | refine st_m11v ?_ | refine st_m11o ?_ | refine st_app11 ?_ | refine st_ext11 ?_ | refine st_gown11 ?_ | refine st_gext11 ?_ | refine st_r12v ?_ | refine st_r12o ?_ | refine st_m12v ?_ | refine st_m12o ?_ | refine st_app12 ?_ | refine st_ext12 ?_ | refine st_gown12 ?_ | refine st_gext12 ?_ | refine st_r13v ?_ | refine st_r13o ?_ | refine st_m13v ?_ | refine st_m13o ?_ | refine st_app13 ?_ | refine st_ext13 ?_ | refine st_gown13 ?_ | refine st_gext13 ?_ | refine st_r14v ?_ | refine st_r14o ?_ | refine st_m14v ?_ | refine st_m14o ?_ | refine st_app14 ?_ | refine st_ext14 ?_ | refine st_gown14 ?_ | refine st_gext14 ?_ | refine st_r15v ?_ | refine st_r15o ?_ | refine st_m15v ?_ | refine st_m15o ?_ | refine st_app15 ?_ | refine st_ext15 ?_ | refine st_gown15 ?_ | refine st_gext15 ?_ | refine st_par ?_ | refine st_asg ?_ | refine st_ex ?_ | refine st_mR ?_ | refine st_mtup ?_ | refine st_mnil ?_ | refine st_mcons ?_ | refine st_for ?_ | refine st_imseq ?_ | refine st_iseq ?_ | refine st_imof ?_ | refine st_imr1 ?_ | refine st_ir1 ?_ | refine st_imr2 ?_ | refine st_enu ?_ | refine st_enl ?_ | refine st_ent ?_ | refine st_zip ?_ | refine st_zl ?_ | refine st_zt ?_ | refine st_lc ?_ | refine st_lc2 ?_ | refine st_oca ?_ | refine st_cat ?_ | refine st_excat ?_ | refine st_sll ?_ | refine st_sl ?_ | refine st_rev ?_ | refine st_nno ?_ | refine st_nat ?_ | refine st_tname ?_ | refine st_tt2 ?_ | refine st_mod (by omega) ?_ | refine st_fdv (by omega) (by omega) ?_ | refine st_mull (by omega) (by omega) ?_ | refine st_mulr (by omega) (by omega) ?_ | refine st_pow (by decide) (by decide) (by decide) ?_ | refine e_is_integer ?_ | refine e_common ?_ | refine e_is_fraction ?_ | refine e_law_common (by omega) (by omega) (by omega) (by omega) ?_) | (simp only [keepR, lfr, lf, lfs, frz, frz1, Rv.sl, Rv.d, updE, wipeE, fill_cc, fill_cn, fill_nn, dn, lfs_nL, lf_expoD, isI_dn, lfs_frD, isT_int_none, isT_int_bool, isT_int_int, isT_int_str, isT_int_list, isT_int_tuple, isT_bool_none, isT_bool_bool, isT_bool_int, isT_bool_str, isT_bool_list, isT_bool_tuple, isT_str_none, isT_str_bool, isT_str_int, isT_str_str, isT_str_list, isT_str_tuple, isT_list_none, isT_list_bool, isT_list_int, isT_list_str, isT_list_list, isT_list_tuple, isT_tuple_none, isT_tuple_bool, isT_tuple_int, isT_tuple_str, isT_tuple_list, isT_tuple_tuple, List.set_cons_zero, List.set_cons_succ, List.map_cons, List.map_nil, List.cons_append, List.nil_append, List.append_nil, Nat.reduceAdd, Nat.reduceSub, Nat.zero_add, Bool.and_true, Bool.true_and, Bool.and_self, Bool.not_true, Bool.not_false, Bool.and_false, Bool.false_and, Bool.or_false, Bool.false_or, Bool.or_true, Bool.true_or, if_true, reduceIte, isN, Bool.false_eq_true, if_false, Int.cast_ofNat_Int, Int.natCast_zero, Int.natCast_one, true_and, decide_true, decide_false, eq_self]))))
theorem rangeD_len (lo : Int) (n : Nat) : (rangeD lo n).length = n := by unfold rangeD; rw [List.length_map, List.length_range]
theorem lfs_app : ∀ (xs ys : List D), lfs (xs ++ ys) = (lfs xs && lfs ys)
  | [], ys => rfl
  | x :: xs, ys => by
    show (lf x && lfs (xs ++ ys)) = ((lf x && lfs xs) && lfs ys)
    rw [lfs_app xs ys, Bool.and_assoc]
theorem perm_erase : ∀ {l : List D} {k : Nat} {d : D}, l[k]? = some d → (d :: l.eraseIdx k).Perm l
  | [], _, _, h => by simp at h
  | x :: l, 0, d, h => by
    have e : x = d := by simpa using h
    rw [e]
    exact List.Perm.refl _
  | x :: l, k + 1, d, h => by
    have ih := perm_erase (l := l) (k := k) (d := d) (by simpa using h)
    show (d :: x :: l.eraseIdx k).Perm (x :: l)
    exact (List.Perm.swap x d _).trans (ih.cons x)
theorem h_law_some : ∀ (n : Nat) (ds : List D) (Q : Nat → Rv → Prop), ds.length = 2 → f_law_some n ds Q → p_law_some { nx := fun n' _ => Q n' (.val .none), rt := Q } n (PL.fill ["pot", "some", "amount", "left", "found", "lap"] (.pot :: ds.map Sl.val)) := by
  rintro n ds Q hl ⟨xs, rfl, hz, hlf, hn, h⟩
  unfold p_law_some
  trivial
  rw [hlf]
  trivial
  refine ⟨by omega, by omega, ?_⟩
  rw [toNat_dn]
  refine forL_go (fun r k e => ∃ (left found : List D) (s5 : Sl), e = [.pot, .val (.list xs), .val (.int xs.length), .own left, .own found, s5] ∧ r.length = left.length ∧ (found ++ left).Perm xs ∧ k + r.length ≤ n + xs.length) ?_ ?_ _ _ _ ⟨xs, [], .un, rfl, rangeD_len _ _, List.Perm.refl _, by rw [rangeD_len]; exact Nat.le_refl _⟩
  · rintro d r k e NN hN ⟨left, found, s5, rfl, hr, hp, hk⟩
    refine ⟨_, rfl, ?_⟩
    trivial
    rw [List.length_cons] at hr hk
    have lz : left.length ≤ 100 := by
      have := hp.length_eq
      rw [List.length_append] at this
      omega
    have fz : found.length ≤ 100 := by
      have := hp.length_eq
      rw [List.length_append] at this
      omega
    refine ⟨left, rfl, ?_⟩
    trivial
    refine ⟨by omega, by omega, by omega, fun m n' hm hn' => ?_⟩
    have ml : m < left.length := by omega
    refine ⟨m, left[m], rfl, by omega, List.getElem?_eq_getElem ml, ?_⟩
    trivial
    refine ⟨line_lt (by omega), hN _ _ ⟨left.eraseIdx m, found ++ [left[m]], _, rfl, ?_, ?_, by omega⟩⟩
    · rw [List.length_eraseIdx_of_lt ml]; omega
    · rw [List.append_assoc]
      exact ((perm_erase (List.getElem?_eq_getElem ml)).append_left found).trans hp
  · rintro k e ⟨left, found, s5, rfl, hr, hp, hk⟩
    have e0 : left = [] := List.length_eq_zero_iff.mp hr.symm
    subst e0
    trivial
    rw [List.append_nil] at hp
    exact h found k hp hk
theorem h_law_cells : ∀ (a : Addr) (ns : List Int) (ds : List D) (Q : Rv → Prop), ds.length = 1 → f_law_cells ns ds Q → p_law_cells a ns { nx := fun _ _ => Q (.val .none), rt := fun _ r => Q r } 0 (PL.fill ["script", "limit"] (.kn (.ref a) :: ds.map Sl.val)) := by
  rintro a ns ds Q hl ⟨rfl, hz, h⟩
  unfold p_law_cells oLrange1
  trivial
  refine ⟨rfl, ?_⟩
  trivial
  refine ⟨?_, ?_⟩
  · refine RgOk.of_le (by decide) ?_ (by decide) ?_ <;> omega
  · exact h _ (by omega) (by omega)
theorem bit_ok {x : Int} {b : Bool} (h0 : 0 ≤ x) (h1 : x < 10 ^ 300) : 0 ≤ x * (if b = true then 1 else 0) ∧ x * (if b = true then 1 else 0) < 10 ^ 300 := by
  cases b
  · rw [if_neg (by simp), Int.mul_zero]; exact ⟨Int.le_refl _, by decide +kernel⟩
  · rw [if_pos rfl, Int.mul_one]; exact ⟨h0, h1⟩
theorem h_law_pot : ∀ (a : Addr) (ns : List Int) (ds : List D) (Q : Rv → Prop), ds.length = 1 → f_law_pot ns ds Q → p_law_pot a ns { nx := fun _ _ => Q (.val .none), rt := fun _ r => Q r } 0 (PL.fill ["script", "place", "cell", "own", "small"] (.kn (.ref a) :: ds.map Sl.val)) := by
  rintro a ns ds Q hl ⟨k, rfl, hk, hz, h⟩
  unfold p_law_pot
  trivial
  refine ⟨rfl, ?_⟩
  trivial
  by_cases c : (k : Int) < (ns.length : Int)
  · rw [decide_eq_true c]
    trivial
    refine ⟨rfl, ?_⟩
    trivial
    have lt : k < ns.length := by omega
    refine ⟨k, rfl, ns[k], List.getElem?_eq_getElem lt, ?_⟩
    generalize ns[k] = cell
    trivial
    refine ⟨⟨by decide, by decide +kernel⟩, ?_⟩
    have w0 : (0 : Int) < (10 ^ (60 : Int).toNat) ^ (5 : Int).toNat := by decide +kernel
    have w1 : ((10 : Int) ^ (60 : Int).toNat) ^ (5 : Int).toNat = 10 ^ 300 := by decide +kernel
    generalize ((10 : Int) ^ (60 : Int).toNat) ^ (5 : Int).toNat = W at *
    trivial
    have m0 := Int.emod_nonneg (cell.natAbs : Int) (by omega : W ≠ 0)
    have m1 := Int.emod_lt_of_pos (cell.natAbs : Int) w0
    generalize (cell.natAbs : Int) % W = x at *
    rw [w1] at m1
    exact h _ _ (bit_ok m0 m1).1 (bit_ok m0 m1).2 (Int.emod_nonneg _ (by decide)) (Int.emod_lt_of_pos _ (by decide))
  · rw [decide_eq_false c]
    trivial
    refine ⟨rfl, ?_⟩
    trivial
    refine ⟨cut ns none (some 1), ?_, ?_⟩
    · unfold cut
      rw [List.map_take, List.map_drop, List.length_map]
    trivial
    generalize (cut ns none (some 1)).sum % 1000003 + 86453 * (k : Int) + 127681 = cell
    refine ⟨⟨by decide, by decide +kernel⟩, ?_⟩
    have w0 : (0 : Int) < (10 ^ (60 : Int).toNat) ^ (5 : Int).toNat := by decide +kernel
    have w1 : ((10 : Int) ^ (60 : Int).toNat) ^ (5 : Int).toNat = 10 ^ 300 := by decide +kernel
    generalize ((10 : Int) ^ (60 : Int).toNat) ^ (5 : Int).toNat = W at *
    trivial
    have m0 := Int.emod_nonneg (cell.natAbs : Int) (by omega : W ≠ 0)
    have m1 := Int.emod_lt_of_pos (cell.natAbs : Int) w0
    generalize (cell.natAbs : Int) % W = x at *
    rw [w1] at m1
    exact h _ _ (bit_ok m0 m1).1 (bit_ok m0 m1).2 (Int.emod_nonneg _ (by decide)) (Int.emod_lt_of_pos _ (by decide))
end K20

set_option Elab.async false
set_option linter.all false
set_option maxRecDepth 100000
set_option maxHeartbeats 4000000
namespace K20
open PySem PySem.Spec PyProof.Rows L2 PL
open Classical
local macro_rules | `(tactic| trivial) => `(tactic| (repeat (first | (with_reducible first | refine st_bin ?_ | refine st_v0v ?_ | refine st_v0o ?_ | refine st_v1v ?_ | refine st_v1o ?_ | refine st_v2v ?_ | refine st_v2o ?_ | refine st_v3v ?_ | refine st_v3o ?_ | refine st_v4v ?_ | refine st_v4o ?_ | refine st_v5v ?_ | refine st_v5o ?_ | refine st_v6v ?_ | refine st_v6o ?_ | refine st_v7v ?_ | refine st_v7o ?_ | refine st_v8v ?_ | refine st_v8o ?_ | refine st_v9v ?_ | refine st_v9o ?_ | refine st_v10v ?_ | refine st_v10o ?_ | refine st_v11v ?_ | refine st_v11o ?_ | refine st_v12v ?_ | refine st_v12o ?_ | refine st_v13v ?_ | refine st_v13o ?_ | refine st_v14v ?_ | refine st_v14o ?_ | refine st_v15v ?_ | refine st_v15o ?_ | refine st_C ?_ | refine st_cons ?_ | refine st_nil ?_ | refine st_ca ?_ | refine st_bval ?_ | refine st_exb ?_ | refine st_exi ?_ | refine st_exs ?_ | refine st_exl ?_ | refine st_exil ?_ | refine st_exit ?_ | refine st_exiz ?_ | refine st_seq ?_ | refine st_iT ?_ | refine st_iF ?_ | refine st_k0 ?_ | refine st_k1 ?_ | refine st_k2 ?_ | refine st_k3 ?_ | refine st_z0 ?_ | refine st_z1 ?_ | refine st_z2 ?_ | refine st_z3 ?_ | refine st_z4 ?_ | refine st_z5 ?_ | refine st_z6 ?_ | refine st_z7 ?_ | refine st_z8 ?_ | refine st_z9 ?_ | refine st_z10 ?_ | refine st_z11 ?_ | refine st_z12 ?_ | refine st_z13 ?_ | refine st_z14 ?_ | refine st_z15 ?_ | refine st_z16 ?_ | refine st_z17 ?_ | refine st_z18 ?_ | refine st_z19 ?_ | refine st_z20 ?_ | refine st_z21 ?_ | refine st_z22 ?_ | refine st_z23 ?_ | refine st_z24 ?_ | refine st_ret ?_ | refine st_rV ?_ | refine st_rO ?_ | refine st_vR ?_ | refine st_call ?_ | refine st_set ?_ | refine st_if ?_ | refine st_lt ?_ | refine st_le ?_ | refine st_gt ?_ | refine st_ge ?_ | refine st_eqi ?_ | refine st_nei ?_ | refine st_eqs ?_ | refine st_nes ?_ | refine st_add ?_ | refine st_sub ?_ | refine st_is ?_ | refine st_isnot ?_ | refine st_ix0l ?_ | refine st_ix0t ?_ | refine st_ix1l ?_ | refine st_ix1t ?_ | refine st_ix2l ?_ | refine st_ix2t ?_ | refine st_len0l ?_ | refine st_len0t ?_ | refine st_len1l ?_ | refine st_len1t ?_ | refine st_len2l ?_ | refine st_len2t ?_ | refine st_len3l ?_ | refine st_len3t ?_ | refine st_len4l ?_ | refine st_len4t ?_ | refine st_lenl ?_ | refine st_lent ?_ | refine st_abs ?_ | refine st_inti ?_ | refine st_intb ?_ | refine st_tupl ?_ | refine st_tupt ?_ | refine st_listl ?_ | refine st_listt ?_ | refine st_strs ?_ | refine st_max ?_ | refine st_min ?_ | refine st_gcd ?_ | refine st_neg ?_ | refine st_tup ?_ | refine st_lst ?_ | refine st_not ?_ | refine st_and ?_ | refine st_or ?_ | refine st_pnot ?_ | refine st_pand ?_ | refine st_por ?_ | refine st_pif ?_ | refine st_chain ?_ | refine st_isi ?_ | refine st_m1 ?_ | refine st_next ?_ | refine st_break ?_ | refine st_cont ?_ | refine st_retN ?_ | refine st_r0v ?_ | refine st_r0o ?_ | refine st_m0v ?_ | refine st_m0o ?_ | refine st_app0 ?_ | refine st_ext0 ?_ | refine st_gown0 ?_ | refine st_gext0 ?_ | refine st_d0 ?_ | refine st_p00 ?_ | refine st_p10 ?_ | refine st_p20 ?_ | refine st_w00 ?_ | refine st_w20 ?_ | refine st_r1v ?_ | refine st_r1o ?_ | refine st_m1v ?_ | refine st_m1o ?_ | refine st_app1 ?_ | refine st_ext1 ?_ | refine st_gown1 ?_ | refine st_gext1 ?_ | refine st_d1 ?_ | refine st_p01 ?_ | refine st_p11 ?_ | refine st_p21 ?_ | refine st_w01 ?_ | refine st_w21 ?_ | refine st_r2v ?_ | refine st_r2o ?_ | refine st_m2v ?_ | refine st_m2o ?_ | refine st_app2 ?_ | refine st_ext2 ?_ | refine st_gown2 ?_ | refine st_gext2 ?_ | refine st_d2 ?_ | refine st_p02 ?_ | refine st_p12 ?_ | refine st_p22 ?_ | refine st_w02 ?_ | refine st_w22 ?_ | refine st_r3v ?_ | refine st_r3o ?_ | refine st_m3v ?_ | refine st_m3o ?_ | refine st_app3 ?_ | refine st_ext3 ?_ | refine st_gown3 ?_ | refine st_gext3 ?_ | refine st_r4v ?_ | refine st_r4o ?_ | refine st_m4v ?_ | refine st_m4o ?_ | refine st_app4 ?_ | refine st_ext4 ?_ | refine st_gown4 ?_ | refine st_gext4 ?_ | refine st_r5v ?_ | refine st_r5o ?_ | refine st_m5v ?_ | refine st_m5o ?_ | refine st_app5 ?_ | refine st_ext5 ?_ | refine st_gown5 ?_ | refine st_gext5 ?_ | refine st_r6v ?_ | refine st_r6o ?_ | refine st_m6v ?_ | refine st_m6o ?_ | refine st_app6 ?_ | refine st_ext6 ?_ | refine st_gown6 ?_ | refine st_gext6 ?_ | refine st_r7v ?_ | refine st_r7o ?_ | refine st_m7v ?_ | refine st_m7o ?_ | refine st_app7 ?_ | refine st_ext7 ?_ | refine st_gown7 ?_ | refine st_gext7 ?_ | refine st_r8v ?_ | refine st_r8o ?_ | refine st_m8v ?_ | refine st_m8o ?_ | refine st_app8 ?_ | refine st_ext8 ?_ | refine st_gown8 ?_ | refine st_gext8 ?_ | refine st_r9v ?_ | refine st_r9o ?_ | refine st_m9v ?_ | refine st_m9o ?_ | refine st_app9 ?_ | refine st_ext9 ?_ | refine st_gown9 ?_ | refine st_gext9 ?_ | refine st_r10v ?_ | refine st_r10o ?_ | refine st_m10v ?_ | refine st_m10o ?_ | refine st_app10 ?_ | refine st_ext10 ?_ | refine st_gown10 ?_ | refine st_gext10 ?_ | refine st_r11v ?_ | refine st_r11o ?_ | refine st_m11v ?_ | refine st_m11o ?_ | refine st_app11 ?_ | refine st_ext11 ?_ | refine st_gown11 ?_ | refine st_gext11 ?_ | refine st_r12v ?_ | refine st_r12o ?_ | refine st_m12v ?_ | refine st_m12o ?_ | refine st_app12 ?_ | refine st_ext12 ?_ | refine st_gown12 ?_ | refine st_gext12 ?_ | refine st_r13v ?_ | refine st_r13o ?_ | refine st_m13v ?_ | refine st_m13o ?_ | refine st_app13 ?_ | refine st_ext13 ?_ | refine st_gown13 ?_ | refine st_gext13 ?_ | refine st_r14v ?_ | refine st_r14o ?_ | refine st_m14v ?_ | refine st_m14o ?_ | refine st_app14 ?_ | refine st_ext14 ?_ | refine st_gown14 ?_ | refine st_gext14 ?_ | refine st_r15v ?_ | refine st_r15o ?_ | refine st_m15v ?_ | refine st_m15o ?_ | refine st_app15 ?_ | refine st_ext15 ?_ | refine st_gown15 ?_ | refine st_gext15 ?_ | refine st_par ?_ | refine st_asg ?_ | refine st_ex ?_ | refine st_mR ?_ | refine st_mtup ?_ | refine st_mnil ?_ | refine st_mcons ?_ | refine st_for ?_ | refine st_imseq ?_ | refine st_iseq ?_ | refine st_imof ?_ | refine st_imr1 ?_ | refine st_ir1 ?_ | refine st_imr2 ?_ | refine st_enu ?_ | refine st_enl ?_ | refine st_ent ?_ | refine st_zip ?_ | refine st_zl ?_ | refine st_zt ?_ | refine st_lc ?_ | refine st_lc2 ?_ | refine st_oca ?_ | refine st_cat ?_ | refine st_excat ?_ | refine st_sll ?_ | refine st_sl ?_ | refine st_rev ?_ | refine st_nno ?_ | refine st_nat ?_ | refine st_tname ?_ | refine st_tt2 ?_ | refine st_mod (by omega) ?_ | refine st_fdv (by omega) (by omega) ?_ | refine st_mull (by omega) (by omega) ?_ | refine st_mulr (by omega) (by omega) ?_ | refine st_pow (by decide) (by decide) (by decide) ?_ | refine e_is_integer ?_ | refine e_common ?_ | refine e_is_fraction ?_ | refine e_law_common (by omega) (by omega) (by omega) (by omega) ?_) | (simp only [keepR, lfr, lf, lfs, frz, frz1, Rv.sl, Rv.d, updE, wipeE, fill_cc, fill_cn, fill_nn, dn, lfs_nL, lf_expoD, isI_dn, lfs_frD, isT_int_none, isT_int_bool, isT_int_int, isT_int_str, isT_int_list, isT_int_tuple, isT_bool_none, isT_bool_bool, isT_bool_int, isT_bool_str, isT_bool_list, isT_bool_tuple, isT_str_none, isT_str_bool, isT_str_int, isT_str_str, isT_str_list, isT_str_tuple, isT_list_none, isT_list_bool, isT_list_int, isT_list_str, isT_list_list, isT_list_tuple, isT_tuple_none, isT_tuple_bool, isT_tuple_int, isT_tuple_str, isT_tuple_list, isT_tuple_tuple, List.set_cons_zero, List.set_cons_succ, List.map_cons, List.map_nil, List.cons_append, List.nil_append, List.append_nil, Nat.reduceAdd, Nat.reduceSub, Nat.zero_add, Bool.and_true, Bool.true_and, Bool.and_self, Bool.not_true, Bool.not_false, Bool.and_false, Bool.false_and, Bool.or_false, Bool.false_or, Bool.or_true, Bool.true_or, if_true, reduceIte, isN, Bool.false_eq_true, if_false, Int.cast_ofNat_Int, Int.natCast_zero, Int.natCast_one, true_and, decide_true, decide_false, eq_self]))))
theorem pv1 {n : Nat} {s0 sl : Sl} {r : En} {ds : List D} {Q : Nat → D → Prop} (h : sl = .own ds ∨ sl = .val (.list ds)) (q : Q n (.list ds)) : pVar 1 n (s0 :: sl :: r) Q := by
  rcases h with rfl | rfl
  · exact q
  · exact q
theorem cut_tail {d : D} {ds : List D} : cut (d :: ds) (some 1) none = ds := by
  unfold cut HT.sIx
  simp
def cpP (one : Nat) : D → Bool
  | .int x => decide (1 < Nat.gcd one x.natAbs)
  | _ => false
theorem cpP_is (one : Nat) : ∀ l : List Nat, ((nL l).filter (cpP one)).map (fun d => d) = nL (l.filter fun x => decide (1 < Nat.gcd one x))
  | [] => rfl
  | x :: l => by
    have ih := cpP_is one l
    rw [nL_cons]
    have e : cpP one (dn x) = decide (1 < Nat.gcd one x) := by
      show decide (1 < Nat.gcd one (x : Int).natAbs) = _
      rw [Int.natAbs_natCast]
    by_cases h : 1 < Nat.gcd one x
    · rw [List.filter_cons_of_pos (by rw [e]; exact decide_eq_true h), List.filter_cons_of_pos (p := fun x => decide (1 < Nat.gcd one x)) (decide_eq_true h), List.map_cons, ih]
      rfl
    · rw [List.filter_cons_of_neg (by rw [e]; simp [h]), List.filter_cons_of_neg (p := fun x => decide (1 < Nat.gcd one x)) (by simp [h]), ih]
def neP (q : Nat) : D → Bool
  | .int x => !decide (x = (q : Int))
  | _ => false
theorem neP_is (q : Nat) : ∀ l : List Nat, ((nL l).filter (neP q)).map (fun d => d) = nL (l.filter fun x => decide (x ≠ q))
  | [] => rfl
  | x :: l => by
    have ih := neP_is q l
    rw [nL_cons]
    by_cases h : x = q
    · have e : neP q (dn x) = false := by
        show (!decide ((x : Int) = (q : Int))) = false
        rw [decide_eq_true (by omega)]; rfl
      rw [List.filter_cons_of_neg (by rw [e]; simp), List.filter_cons_of_neg (p := fun x => decide (x ≠ q)) (by simp [h]), ih]
    · have e : neP q (dn x) = true := by
        show (!decide ((x : Int) = (q : Int))) = true
        rw [decide_eq_false (by omega)]; rfl
      rw [List.filter_cons_of_pos e, List.filter_cons_of_pos (p := fun x => decide (x ≠ q)) (decide_eq_true h), List.map_cons, ih]
      rfl
theorem prodL_le {k : Nat} : ∀ {l : List Nat}, (∀ x ∈ l, x < 2 ^ k) → prodL l ≤ 2 ^ (k * l.length)
  | [], _ => Nat.le_refl _
  | x :: l, h => by
    have ih := prodL_le (l := l) fun y hy => h y (List.mem_cons_of_mem _ hy)
    have := h x List.mem_cons_self
    show x * prodL l ≤ 2 ^ (k * (l.length + 1))
    rw [Nat.mul_add, Nat.mul_one, Nat.pow_add, Nat.mul_comm]
    exact Nat.mul_le_mul ih (Nat.le_of_lt this)
theorem sort_out {ns found : List Nat} {Q : List D → Prop} (hway : Way ns ns found []) (h : ∀ B, IsB ns B → Q (nL B)) : oSortI [.list (nL found)] Q := by
  refine ⟨found.map fun (n : Nat) => (n : Int), by unfold nL; rw [List.map_map]; rfl, fun ms hp hs => ?_⟩
  have pos : ∀ m ∈ ms, 0 ≤ m := fun m hm => by
    obtain ⟨x, _, rfl⟩ := List.mem_map.mp (hp.subset hm)
    exact Int.natCast_nonneg x
  have eB : ms = (ms.map Int.toNat).map fun (n : Nat) => (n : Int) := by
    rw [List.map_map]
    have : ∀ l : List Int, (∀ m ∈ l, 0 ≤ m) → l = l.map ((fun (n : Nat) => (n : Int)) ∘ Int.toNat) := by
      intro l
      induction l with
      | nil => intro _; rfl
      | cons x l ih =>
        intro hx
        rw [List.map_cons, ← ih fun m hm => hx m (List.mem_cons_of_mem _ hm)]
        have := hx x List.mem_cons_self
        show x :: l = ((x.toNat : Nat) : Int) :: l
        rw [Int.toNat_of_nonneg this]
    exact this ms pos
  have pB : (ms.map Int.toNat).Perm found := by
    have := hp.map Int.toNat
    rw [List.map_map] at this
    have e : found.map (Int.toNat ∘ fun (n : Nat) => (n : Int)) = found := by
      have : (Int.toNat ∘ fun (n : Nat) => (n : Int)) = _root_.id := by funext x; exact Int.toNat_natCast x
      rw [this, List.map_id]
    rw [e] at this
    exact this
  have sB : (ms.map Int.toNat).Pairwise (· ≤ ·) := List.pairwise_map.mpr (hs.imp fun {a c} hac => Int.toNat_le_toNat hac)
  have q := h _ (hway.done pB sB)
  have e2 : ms.map PyData.int = nL (ms.map Int.toNat) := by
    unfold nL
    conv => lhs; rw [eB]
    rw [List.map_map]; rfl
  rw [e2]
  exact q
theorem h_law_base : ∀ (ds : List D) (Q : Rv → Prop), ds.length = 1 → f_law_base ds Q → p_law_base { nx := fun _ _ => Q (.val .none), rt := fun _ r => Q r } 0 (PL.fill ["numbers", "left", "found", "lap", "one", "hits", "other", "both", "its"] (ds.map Sl.val)) := by
  rintro ds Q hl ⟨ns, rfl, hns, hz, h⟩
  unfold p_law_base
  trivial
  refine comp_all (fun d => d) (fun d hd => ?_) (line_le (by rw [nL_len]; omega)) ?_
  · obtain ⟨n, hn, rfl⟩ := mem_nL hd
    refine ⟨_, rfl, fun R hR => ?_⟩
    trivial
    exact hR
  rw [List.map_id']
  trivial
  refine ⟨by decide, by decide, ?_⟩
  refine forL_go (fun r k e => k = 0 ∧ ∃ (wait found : List Nat) (L : Nat) (s0 sl s3 s4 s5 s6 s7 s8 : Sl), e = [s0, sl, .own (nL found), s3, s4, s5, s6, s7, s8] ∧ (sl = .own (nL wait) ∨ sl = .val (.list (nL wait))) ∧ Way ns ns found wait ∧ prodL found * prodL wait ≤ 2 ^ L ∧ 3 * L + wait.length + 1 ≤ r.length ∧ r.length ≤ 4000 ∧ L ≤ 300 ∧ (∀ x ∈ found, x < 2 ^ 20) ∧ ∀ x ∈ wait, x < 2 ^ 20) ?_ ?_ _ _ _
    ⟨rfl, ns, [], 17 * ns.length, _, _, _, _, _, _, _, _, rfl, .inl rfl, way_all ns fun n hn => (hns n hn).1, ?_, ?_, Nat.le_of_eq (rangeD_len _ _), by omega, fun x hx => absurd hx List.not_mem_nil, fun x hx => by have := (hns x hx).2; omega⟩
  · rintro d r k e NN hN ⟨rfl, wait, found, L, s0, sl, s3, s4, s5, s6, s7, s8, rfl, hsl, hw, hP, hr, hr4, hL, hlt, hltw⟩
    have fl := len_le hw.cb.two (Nat.le_trans (Nat.le_mul_of_pos_right _ (prodL_pos hw.w1)) hP)
    have f1 : ∀ x ∈ found, 1 ≤ x := fun x hx => by have := hw.cb.two x hx; omega
    refine ⟨_, rfl, ?_⟩
    trivial
    refine pv1 hsl ?_
    trivial
    refine ⟨shaped_list fun d hd => flat_nL hd, shaped_list fun d hd => absurd hd List.not_mem_nil, ?_⟩
    rw [eqv_nL0]
    cases wait with
    | nil =>
      rw [decide_eq_true rfl]
      trivial
      refine sort_out hw fun B hB => ?_
      trivial
      exact h B hB
    | cons one w0 =>
      rw [decide_eq_false (by simp)]
      trivial
      refine pv1 hsl ?_
      trivial
      refine ⟨dn one, by rw [nL_cons]; exact atI_zero _ _, ?_⟩
      trivial
      refine pv1 hsl ?_
      trivial
      rw [nL_cons, cut_tail]
      trivial
      have o1 : 1 ≤ one := hw.w1 one List.mem_cons_self
      have o2 : one < 2 ^ 20 := hltw one List.mem_cons_self
      have hltw0 : ∀ x ∈ w0, x < 2 ^ 20 := fun x hx => hltw x (List.mem_cons_of_mem _ hx)
      have w0p : ∀ x ∈ w0, 1 ≤ x := fun x hx => hw.w1 x (List.mem_cons_of_mem _ hx)
      rw [List.length_cons, List.length_cons] at hr
      rw [List.length_cons] at hr4
      have wl : w0.length ≤ 4000 := by omega
      refine compF_all (cpP one) (fun d => d) (fun d hd => ?_) (line_le (by rw [nL_len]; omega)) ?_
      · obtain ⟨x, hx, rfl⟩ := mem_nL hd
        have x2 := hlt x hx
        refine ⟨_, rfl, fun R hR => ?_, fun R hR => ?_⟩
        · trivial
          have e : cpP one (dn x) = decide (1 < (Nat.gcd ((one : Int)).natAbs ((x : Int)).natAbs : Int)) := by
            show decide (1 < Nat.gcd one (x : Int).natAbs) = _
            rw [Int.natAbs_natCast, Int.natAbs_natCast]
            by_cases h : 1 < Nat.gcd one x
            · rw [decide_eq_true h, decide_eq_true (by omega)]
            · rw [decide_eq_false h, decide_eq_false (by omega)]
          rw [e] at hR
          exact hR
        · trivial
          exact hR
      rw [cpP_is]
      trivial
      by_cases c1 : 1 < (one : Int)
      · rw [decide_eq_true c1]
        trivial
        refine ⟨shaped_list fun d hd => flat_nL hd, shaped_list fun d hd => absurd hd List.not_mem_nil, ?_⟩
        rw [eqv_nL0]
        rcases List.eq_nil_or_concat (found.filter fun x => decide (1 < Nat.gcd one x)) with hix | ⟨hi, q, hix⟩
        · rw [hix, decide_eq_true rfl]
          trivial
          refine ⟨line_lt (by rw [nL_len]; omega), hN _ _ ⟨rfl, w0, found ++ [one], L, _, _, _, _, _, _, _, _, by rw [nL_app]; rfl, .inr rfl, hw.add (by omega) (fun x hx => ?_), ?_, by omega, by omega, hL, fun x hx => ?_, hltw0⟩⟩
          · have a2 := Nat.gcd_pos_of_pos_left x o1
            rcases Nat.lt_or_ge 1 (Nat.gcd one x) with z | z
            · have : x ∈ found.filter fun x => decide (1 < Nat.gcd one x) := List.mem_filter.mpr ⟨hx, decide_eq_true z⟩
              rw [hix] at this
              exact absurd this List.not_mem_nil
            · omega
          · rw [prodL_snoc, Nat.mul_assoc]; exact hP
          · rcases List.mem_append.mp hx with e | e
            · exact hlt x e
            · rw [List.mem_singleton.mp e]; exact o2
        · rw [List.concat_eq_append] at hix
          have qf : q ∈ found.filter fun x => decide (1 < Nat.gcd one x) := by rw [hix]; exact List.mem_append_right _ (List.mem_singleton.mpr rfl)
          obtain ⟨qm, qg⟩ := List.mem_filter.mp qf
          have hg : 1 < Nat.gcd one q := of_decide_eq_true qg
          have q2 := hw.cb.two q qm
          have q3 := hlt q qm
          have gle : Nat.gcd one q ≤ one := Nat.gcd_le_left q o1
          have G1 : 1 < Nat.gcd ((one : Int)).natAbs ((q : Int)).natAbs := hg
          have G2 : Nat.gcd ((one : Int)).natAbs ((q : Int)).natAbs ≤ one := gle
          rw [hix, decide_eq_false (by simp)]
          trivial
          rw [decide_eq_true c1]
          trivial
          refine ⟨dn q, by rw [nL_app]; exact PL.atI_last _ _, ?_⟩
          trivial
          refine compF_all (neP q) (fun d => d) (fun d hd => ?_) (line_le (by rw [nL_len]; omega)) ?_
          · obtain ⟨x, hx, rfl⟩ := mem_nL hd
            refine ⟨_, rfl, fun R hR => ?_, fun R hR => ?_⟩
            · trivial
              exact hR
            · trivial
              exact hR
          rw [neP_is]
          trivial
          refine ⟨by rw [nL_len]; exact line_le (by show 3 + w0.length ≤ _; omega), ?_⟩
          trivial
          have P1 : 1 ≤ prodL (found.filter fun x => decide (x ≠ q)) * prodL w0 := Nat.mul_pos (prodL_pos fun x hx => f1 x (List.mem_filter.mp hx).1) (prodL_pos w0p)
          obtain ⟨z1, z2⟩ := split_half (p := one) (q := q) hg P1 o1 (by omega)
          have eP : one * (q * (prodL (found.filter fun x => decide (x ≠ q)) * prodL w0)) = prodL found * prodL (one :: w0) := by
            rw [prodL_filter hw.cb.nodup qm]
            show _ = _ * (one * prodL w0)
            simp only [Nat.mul_comm, Nat.mul_left_comm, Nat.mul_assoc]
          rw [eP] at z1
          obtain ⟨L', eL, hL'⟩ := half_pow z1 hP z2
          refine hN _ _ ⟨rfl, Nat.gcd one q :: one / Nat.gcd one q :: q / Nat.gcd one q :: w0, found.filter (fun x => decide (x ≠ q)), L', _, _, _, _, _, _, _, _, rfl, .inl ?_, ?_, ?_, ?_, by omega, by omega, fun x hx => hlt x (List.mem_filter.mp hx).1, fun x hx => ?_⟩
          · rw [nL_cons, nL_cons, nL_cons]
            show Sl.own ([_, _, _] ++ nL w0) = Sl.own ([dn _, dn _, dn _] ++ nL w0)
            unfold dn
            rw [Int.natCast_ediv, Int.natCast_ediv]
            rfl
          · refine (hw.split qm List.filter_sublist (fun m hm => ?_) hg).perm fun x => ?_
            · by_cases e : m = q
              · exact .inl e
              · exact .inr (List.mem_filter.mpr ⟨hm, decide_eq_true e⟩)
            · simp only [List.mem_cons]
              constructor
              · rintro (h | h | h | h) <;> simp [h]
              · rintro (h | h | h | h) <;> simp [h]
          · show prodL (found.filter fun x => decide (x ≠ q)) * (Nat.gcd one q * (one / Nat.gcd one q * (q / Nat.gcd one q * prodL w0))) ≤ _
            refine Nat.le_trans (Nat.le_of_eq ?_) hL'
            simp only [Nat.mul_comm, Nat.mul_left_comm, Nat.mul_assoc]
          · show 3 * L' + (w0.length + 3) + 1 ≤ r.length
            omega
          · have d1 : one / Nat.gcd one q ≤ one := Nat.div_le_self _ _
            have d2 : q / Nat.gcd one q ≤ q := Nat.div_le_self _ _
            rcases List.mem_cons.mp hx with e | hx
            · omega
            · rcases List.mem_cons.mp hx with e | hx
              · omega
              · rcases List.mem_cons.mp hx with e | hx
                · omega
                · exact hltw0 x hx
      · rw [decide_eq_false c1]
        trivial
        rw [decide_eq_false c1]
        trivial
        have e1 : one = 1 := by omega
        subst e1
        have hP' : prodL found * (1 * prodL w0) ≤ 2 ^ L := hP
        rw [Nat.one_mul] at hP'
        exact hN _ _ ⟨rfl, w0, found, L, _, _, _, _, _, _, _, _, rfl, .inr rfl, hw.drop1, hP', by omega, by omega, hL, hlt, hltw0⟩
  · rintro k e ⟨rfl, wait, found, L, s0, sl, s3, s4, s5, s6, s7, s8, rfl, hsl, hw, hP, hr, _⟩
    rw [List.length_nil] at hr
    omega
  · show 1 * prodL ns ≤ _
    rw [Nat.one_mul]
    exact prodL_le fun x hx => (hns x hx).2
  · rw [rangeD_len]
    show 3 * (17 * ns.length) + ns.length + 1 ≤ 4000
    omega
end K20

set_option Elab.async false
set_option linter.all false
set_option maxRecDepth 100000
set_option maxHeartbeats 4000000
namespace K20
open PySem PySem.Spec PyProof.Rows L2 PL
open Classical
local macro_rules | `(tactic| trivial) => `(tactic| (repeat (first | (with_reducible first | refine st_bin ?_ | refine st_v0v ?_ | refine st_v0o ?_ | refine st_v1v ?_ | refine st_v1o ?_ | refine st_v2v ?_ | refine st_v2o ?_ | refine st_v3v ?_ | refine st_v3o ?_ | refine st_v4v ?_ | refine st_v4o ?_ | refine st_v5v ?_ | refine st_v5o ?_ | refine st_v6v ?_ | refine st_v6o ?_ | refine st_v7v ?_ | refine st_v7o ?_ | refine st_v8v ?_ | refine st_v8o ?_ | refine st_v9v ?_ | refine st_v9o ?_ | refine st_v10v ?_ | refine st_v10o ?_ | refine st_v11v ?_ | refine st_v11o ?_ | refine st_v12v ?_ | refine st_v12o ?_ | refine st_v13v ?_ | refine st_v13o ?_ | refine st_v14v ?_ | refine st_v14o ?_ | refine st_v15v ?_ | refine st_v15o ?_ | refine st_C ?_ | refine st_cons ?_ | refine st_nil ?_ | refine st_ca ?_ | refine st_bval ?_ | refine st_exb ?_ | refine st_exi ?_ | refine st_exs ?_ | refine st_exl ?_ | refine st_exil ?_ | refine st_exit ?_ | refine st_exiz ?_ | refine st_seq ?_ | refine st_iT ?_ | refine st_iF ?_ | refine st_k0 ?_ | refine st_k1 ?_ | refine st_k2 ?_ | refine st_k3 ?_ | refine st_z0 ?_ | refine st_z1 ?_ | refine st_z2 ?_ | refine st_z3 ?_ | refine st_z4 ?_ | refine st_z5 ?_ | refine st_z6 ?_ | refine st_z7 ?_ | refine st_z8 ?_ | refine st_z9 ?_ | refine st_z10 ?_ | refine st_z11 ?_ | refine st_z12 ?_ | refine st_z13 ?_ | refine st_z14 ?_ | refine st_z15 ?_ | refine st_z16 ?_ | refine st_z17 ?_ | refine st_z18 ?_ | refine st_z19 ?_ | refine st_z20 ?_ | refine st_z21 ?_ | refine st_z22 ?_ | refine st_z23 ?_ | refine st_z24 ?_ | refine st_ret ?_ | refine st_rV ?_ | refine st_rO ?_ | refine st_vR ?_ | refine st_call ?_ | refine st_set ?_ | refine st_if ?_ | refine st_lt ?_ | refine st_le ?_ | refine st_gt ?_ | refine st_ge ?_ | refine st_eqi ?_ | refine st_nei ?_ | refine st_eqs ?_ | refine st_nes ?_ | refine st_add ?_ | refine st_sub ?_ | refine st_is ?_ | refine st_isnot ?_ | refine st_ix0l ?_ | refine st_ix0t ?_ | refine st_ix1l ?_ | refine st_ix1t ?_ | refine st_ix2l ?_ | refine st_ix2t ?_ | refine st_len0l ?_ | refine st_len0t ?_ | refine st_len1l ?_ | refine st_len1t ?_ | refine st_len2l ?_ | refine st_len2t ?_ | refine st_len3l ?_ | refine st_len3t ?_ | refine st_len4l ?_ | refine st_len4t ?_ | refine st_lenl ?_ | refine st_lent ?_ | refine st_abs ?_ | refine st_inti ?_ | refine st_intb ?_ | refine st_tupl ?_ | refine st_tupt ?_ | refine st_listl ?_ | refine st_listt ?_ | refine st_strs ?_ | refine st_max ?_ | refine st_min ?_ | refine st_gcd ?_ | refine st_neg ?_ | refine st_tup ?_ | refine st_lst ?_ | refine st_not ?_ | refine st_and ?_ | refine st_or ?_ | refine st_pnot ?_ | refine st_pand ?_ | refine st_por ?_ | refine st_pif ?_ | refine st_chain ?_ | refine st_isi ?_ | refine st_m1 ?_ | refine st_next ?_ | refine st_break ?_ | refine st_cont ?_ | refine st_retN ?_ | refine st_r0v ?_ | refine st_r0o ?_ | refine st_m0v ?_ | refine st_m0o ?_ | refine st_app0 ?_ | refine st_ext0 ?_ | refine st_gown0 ?_ | refine st_gext0 ?_ | refine st_d0 ?_ | refine st_p00 ?_ | refine st_p10 ?_ | refine st_p20 ?_ | refine st_w00 ?_ | refine st_w20 ?_ | refine st_r1v ?_ | refine st_r1o ?_ | refine st_m1v ?_ | refine st_m1o ?_ | refine st_app1 ?_ | refine st_ext1 ?_ | refine st_gown1 ?_ | refine st_gext1 ?_ | refine st_d1 ?_ | refine st_p01 ?_ | refine st_p11 ?_ | refine st_p21 ?_ | refine st_w01 ?_ | refine st_w21 ?_ | refine st_r2v ?_ | refine st_r2o ?_ | refine st_m2v ?_ | refine st_m2o ?_ | refine st_app2 ?_ | refine st_ext2 ?_ | refine st_gown2 ?_ | refine st_gext2 ?_ | refine st_d2 ?_ | refine st_p02 ?_ | refine st_p12 ?_ | refine st_p22 ?_ | refine st_w02 ?_ | refine st_w22 ?_ | refine st_r3v ?_ | refine st_r3o ?_ | refine st_m3v ?_ | refine st_m3o ?_ | refine st_app3 ?_ | refine st_ext3 ?_ | refine st_gown3 ?_ | refine st_gext3 ?_ | refine st_r4v ?_ | refine st_r4o ?_ | refine st_m4v ?_ | refine st_m4o ?_ | refine st_app4 ?_ | refine st_ext4 ?_ | refine st_gown4 ?_ | refine st_gext4 ?_ | refine st_r5v ?_ | refine st_r5o ?_ | refine st_m5v ?_ | refine st_m5o ?_ | refine st_app5 ?_ | refine st_ext5 ?_ | refine st_gown5 ?_ | refine st_gext5 ?_ | refine st_r6v ?_ | refine st_r6o ?_ | refine st_m6v ?_ | refine st_m6o ?_ | refine st_app6 ?_ | refine st_ext6 ?_ | refine st_gown6 ?_ | refine st_gext6 ?_ | refine st_r7v ?_ | refine st_r7o ?_ | refine st_m7v ?_ | refine st_m7o ?_ | refine st_app7 ?_ | refine st_ext7 ?_ | refine st_gown7 ?_ | refine st_gext7 ?_ | refine st_r8v ?_ | refine st_r8o ?_ | refine st_m8v ?_ | refine st_m8o ?_ | refine st_app8 ?_ | refine st_ext8 ?_ | refine st_gown8 ?_ | refine st_gext8 ?_ | refine st_r9v ?_ | refine st_r9o ?_ | refine st_m9v ?_ | refine st_m9o ?_ | refine st_app9 ?_ | refine st_ext9 ?_ | refine st_gown9 ?_ | refine st_gext9 ?_ | refine st_r10v ?_ | refine st_r10o ?_ | refine st_m10v ?_ | refine st_m10o ?_ | refine st_app10 ?_ | refine st_ext10 ?_ | refine st_gown10 ?_ | refine st_gext10 ?_ | refine st_r11v ?_ | refine st_r11o ?_ | refine st_m11v ?_ | refine st_m11o ?_ | refine st_app11 ?_ | refine st_ext11 ?_ | refine st_gown11 ?_ | refine st_gext11 ?_ | refine st_r12v ?_ | refine st_r12o ?_ | refine st_m12v ?_ | refine st_m12o ?_ | refine st_app12 ?_ | refine st_ext12 ?_ | refine st_gown12 ?_ | refine st_gext12 ?_ | refine st_r13v ?_ | refine st_r13o ?_ | refine st_m13v ?_ | refine st_m13o ?_ | refine st_app13 ?_ | refine st_ext13 ?_ | refine st_gown13 ?_ | refine st_gext13 ?_ | refine st_r14v ?_ | refine st_r14o ?_ | refine st_m14v ?_ | refine st_m14o ?_ | refine st_app14 ?_ | refine st_ext14 ?_ | refine st_gown14 ?_ | refine st_gext14 ?_ | refine st_r15v ?_ | refine st_r15o ?_ | refine st_m15v ?_ | refine st_m15o ?_ | refine st_app15 ?_ | refine st_ext15 ?_ | refine st_gown15 ?_ | refine st_gext15 ?_ | refine st_par ?_ | refine st_asg ?_ | refine st_ex ?_ | refine st_mR ?_ | refine st_mtup ?_ | refine st_mnil ?_ | refine st_mcons ?_ | refine st_for ?_ | refine st_imseq ?_ | refine st_iseq ?_ | refine st_imof ?_ | refine st_imr1 ?_ | refine st_ir1 ?_ | refine st_imr2 ?_ | refine st_enu ?_ | refine st_enl ?_ | refine st_ent ?_ | refine st_zip ?_ | refine st_zl ?_ | refine st_zt ?_ | refine st_lc ?_ | refine st_lc2 ?_ | refine st_oca ?_ | refine st_cat ?_ | refine st_excat ?_ | refine st_sll ?_ | refine st_sl ?_ | refine st_rev ?_ | refine st_nno ?_ | refine st_nat ?_ | refine st_tname ?_ | refine st_tt2 ?_ | refine st_mod (by omega) ?_ | refine st_fdv (by omega) (by omega) ?_ | refine st_mull (by omega) (by omega) ?_ | refine st_mulr (by omega) (by omega) ?_ | refine st_pow (by decide) (by decide) (by decide) ?_ | refine e_is_integer ?_ | refine e_common ?_ | refine e_is_fraction ?_ | refine e_law_common (by omega) (by omega) (by omega) (by omega) ?_) | (simp only [keepR, lfr, lf, lfs, frz, frz1, Rv.sl, Rv.d, updE, wipeE, fill_cc, fill_cn, fill_nn, dn, lfs_nL, lf_expoD, isI_dn, lfs_frD, isT_int_none, isT_int_bool, isT_int_int, isT_int_str, isT_int_list, isT_int_tuple, isT_bool_none, isT_bool_bool, isT_bool_int, isT_bool_str, isT_bool_list, isT_bool_tuple, isT_str_none, isT_str_bool, isT_str_int, isT_str_str, isT_str_list, isT_str_tuple, isT_list_none, isT_list_bool, isT_list_int, isT_list_str, isT_list_list, isT_list_tuple, isT_tuple_none, isT_tuple_bool, isT_tuple_int, isT_tuple_str, isT_tuple_list, isT_tuple_tuple, List.set_cons_zero, List.set_cons_succ, List.map_cons, List.map_nil, List.cons_append, List.nil_append, List.append_nil, Nat.reduceAdd, Nat.reduceSub, Nat.zero_add, Bool.and_true, Bool.true_and, Bool.and_self, Bool.not_true, Bool.not_false, Bool.and_false, Bool.false_and, Bool.or_false, Bool.false_or, Bool.or_true, Bool.true_or, if_true, reduceIte, isN, Bool.false_eq_true, if_false, Int.cast_ofNat_Int, Int.natCast_zero, Int.natCast_one, true_and, decide_true, decide_false, eq_self]))))
theorem h_law_exponents : ∀ (ds : List D) (Q : Rv → Prop), ds.length = 2 → f_law_exponents ds Q → p_law_exponents { nx := fun _ _ => Q (.val .none), rt := fun _ r => Q r } 0 (PL.fill ["base", "number", "found", "left", "part", "often", "lap"] (ds.map Sl.val)) := by
  rintro ds Q hl ⟨B, N, rfl, n1, n2, hB, hz, h⟩
  unfold p_law_exponents
  trivial
  refine forL_go (fun r k e => k = 0 ∧ ∃ (Br xs : List Nat) (l : Nat) (s0 s1 s4 s5 s6 : Sl), nL Br = r ∧ e = [s0, s1, .own (nL xs), .val (.int l), s4, s5, s6] ∧ 1 ≤ l ∧ l < 2 ^ 20 ∧ (∀ b ∈ Br, 2 ≤ b ∧ b < 2 ^ 20) ∧ xs ++ (splitAll Br l).1 = (splitAll B N).1 ∧ (splitAll Br l).2 = (splitAll B N).2 ∧ xs.length + Br.length = B.length) ?_ ?_ _ _ _ ⟨rfl, B, [], N, _, _, _, _, _, rfl, rfl, n1, n2, hB, rfl, rfl, by rw [List.length_nil, Nat.zero_add]⟩
  · rintro d r k e NN hN ⟨rfl, Br, xs, l0, s0, s1, s4, s5, s6, er, rfl, l1, l2, hBr, g1, g2, g3⟩
    obtain ⟨p, B', rfl, rfl, rfl⟩ := nL_uncons er
    obtain ⟨p1, p2⟩ := hBr p List.mem_cons_self
    refine ⟨_, rfl, ?_⟩
    trivial
    refine ⟨by decide, by decide, ?_⟩
    have c20 : (split1 p l0 l0).1 < 20 := by
      have := split1_log p1 l0 l0 (Nat.le_refl _) l1
      exact (Nat.pow_lt_pow_iff_right (by decide : 1 < 2)).mp (Nat.lt_of_le_of_lt this l2)
    refine forL_go (fun r k e => k = 0 ∧ ∃ (f l : Nat) (s6 : Sl), e = [s0, s1, .own (nL xs), .val (.int l), .val (.int p), .val (.int f), s6] ∧ 1 ≤ l ∧ l < 2 ^ 20 ∧ (f + (split1 p l l).1, (split1 p l l).2) = split1 p l0 l0 ∧ (split1 p l l).1 ≤ r.length) ?_ ?_ _ _ _ ⟨rfl, 0, l0, _, rfl, l1, l2, by rw [Nat.zero_add], by rw [rangeD_len]; show _ ≤ 400; omega⟩
    · rintro d r k e N2 hN2 ⟨rfl, f, l, s6, rfl, l1, l2, hs, hr⟩
      refine ⟨_, rfl, ?_⟩
      trivial
      rw [← Int.natCast_emod]
      by_cases z : l % p = 0
      · rw [decide_eq_true (by omega : ((l % p : Nat) : Int) = 0)]
        trivial
        obtain ⟨t1, t2, t3⟩ := split1_step p1 l1 z
        refine hN2 _ _ ⟨rfl, f + 1, l / p, .val d, ?_, t2, by omega, ?_, ?_⟩
        · rw [Int.natCast_add, Int.natCast_one, Int.natCast_ediv]
        · rw [← hs, t1]
          exact Prod.ext (by show f + 1 + _ = f + (_ + 1); omega) rfl
        · rw [t1, List.length_cons] at hr
          have hr' : (split1 p (l / p) (l / p)).1 + 1 ≤ r.length + 1 := hr
          omega
      · rw [decide_eq_false (by omega : ¬ ((l % p : Nat) : Int) = 0)]
        trivial
        exact hN2 _ _ ⟨rfl, f, l, _, rfl, l1, l2, hs, by rw [split1_stop l1 z]; exact Nat.zero_le _⟩
    · rintro k e ⟨rfl, f, l, s6, rfl, l1, l2, hs, hr⟩
      trivial
      obtain ⟨t0, t1, t2, t3, _⟩ := split1_is p1 l l (Nat.le_refl _) l1
      have z0 : (split1 p l l).1 = 0 := Nat.le_zero.mp hr
      have zl : (split1 p l l).2 = l := by
        rw [z0, Nat.pow_zero, Nat.one_mul] at t0
        exact t0.symm
      rw [z0, zl, Nat.add_zero] at hs
      have hf : f = (split1 p l0 l0).1 := by rw [← hs]
      have hl' : l = (split1 p l0 l0).2 := by rw [← hs]
      refine ⟨line_lt (by rw [nL_len]; rw [List.length_cons] at g3; omega), hN _ _ ⟨rfl, B', xs ++ [f], l, _, _, _, _, _, rfl, by rw [nL_app]; rfl, l1, l2, fun b hb => hBr b (List.mem_cons_of_mem _ hb), ?_, ?_, ?_⟩⟩
      · rw [List.append_assoc, hf, hl']; exact g1
      · rw [hl']; exact g2
      · rw [List.length_append, List.length_singleton]; rw [List.length_cons] at g3; omega
  · rintro k e ⟨rfl, Br, xs, l, s0, s1, s4, s5, s6, er, rfl, l1, l2, hBr, g1, g2, g3⟩
    have eB := nL_empty er
    subst eB
    trivial
    have e1 : xs = (splitAll B N).1 := by rw [← g1]; exact (List.append_nil _).symm
    have e2 : l = (splitAll B N).2 := g2
    subst e1
    by_cases z : l = 1
    · rw [decide_eq_true (by omega : (l : Int) = 1)]
      trivial
      unfold expoL at h
      rw [if_pos (by rw [← e2]; exact z)] at h
      exact h
    · rw [decide_eq_false (by omega : ¬ (l : Int) = 1)]
      trivial
      unfold expoL at h
      rw [if_neg (by rw [← e2]; exact z)] at h
      exact h
theorem lot_bound {t r : Nat} {v : Nat} (h1 : t * 49 ^ (r + 1) ≤ 117649) (hv : v ≤ 49) : t * v * 49 ^ r ≤ 117649 := by
  refine Nat.le_trans ?_ h1
  rw [Nat.pow_succ, Nat.mul_assoc, Nat.mul_comm (49 ^ r)]
  exact Nat.mul_le_mul_left _ (Nat.mul_le_mul_right _ hv)
theorem parts_ok : ∀ d ∈ [PyData.int 2, .int 3, .int 6, .int 4, .int 5, .int 10, .int 12, .int 7, .int 9, .int 15, .int 49, .int 8], ∃ v : Nat, d = .int v ∧ 1 ≤ v ∧ v ≤ 49 := by
  intro d hd
  simp only [List.mem_cons, List.not_mem_nil, or_false] at hd
  rcases hd with rfl | rfl | rfl | rfl | rfl | rfl | rfl | rfl | rfl | rfl | rfl | rfl
  · exact ⟨2, rfl, by decide, by decide⟩
  · exact ⟨3, rfl, by decide, by decide⟩
  · exact ⟨6, rfl, by decide, by decide⟩
  · exact ⟨4, rfl, by decide, by decide⟩
  · exact ⟨5, rfl, by decide, by decide⟩
  · exact ⟨10, rfl, by decide, by decide⟩
  · exact ⟨12, rfl, by decide, by decide⟩
  · exact ⟨7, rfl, by decide, by decide⟩
  · exact ⟨9, rfl, by decide, by decide⟩
  · exact ⟨15, rfl, by decide, by decide⟩
  · exact ⟨49, rfl, by decide, by decide⟩
  · exact ⟨8, rfl, by decide, by decide⟩
theorem h_law_lot : ∀ (n : Nat) (ds : List D) (Q : Nat → Rv → Prop), ds.length = 0 → f_law_lot n ds Q → p_law_lot { nx := fun n' _ => Q n' (.val .none), rt := Q } n (PL.fill ["pot", "parts", "found", "lap", "top", "low", "turn"] (.pot :: ds.map Sl.val)) := by
  rintro n ds Q hl ⟨rfl, hM, h⟩
  unfold Most at hM
  unfold p_law_lot
  trivial
  refine ⟨by omega, by omega, by unfold Most; omega, fun m n1 hm hn1 => ?_⟩
  trivial
  refine ⟨by omega, by omega, ?_⟩
  rw [toNat_dn]
  refine forL_go (fun r k e => ∃ (ps : List (Nat × Nat)) (s3 s4 s5 s6 : Sl), e = [.pot, .own [.int 2, .int 3, .int 6, .int 4, .int 5, .int 10, .int 12, .int 7, .int 9, .int 15, .int 49, .int 8], .own (ps.map frD), s3, s4, s5, s6] ∧ (∀ p ∈ ps, Fr p ∧ p.1 < 2 ^ 17 ∧ p.2 < 2 ^ 17) ∧ ps.length + r.length ≤ 7 ∧ k + 8 * r.length ≤ n + 60) ?_ ?_ _ _ _ ⟨[], _, _, _, _, rfl, fun p hp => absurd hp List.not_mem_nil, by rw [rangeD_len, List.length_nil]; omega, by rw [rangeD_len]; omega⟩
  · rintro d r k e NN hN ⟨ps, s3, s4, s5, s6, rfl, hp, hr, hk⟩
    rw [List.length_cons] at hr hk
    refine ⟨_, rfl, ?_⟩
    trivial
    refine ⟨by omega, by omega, by unfold Most; omega, fun m1 k1 hm1 hk1 => ?_⟩
    trivial
    refine ⟨by omega, by omega, ?_⟩
    rw [toNat_dn]
    refine forL_go (fun r' k' e => ∃ (t : Nat) (s3 s6 : Sl), e = [.pot, .own [.int 2, .int 3, .int 6, .int 4, .int 5, .int 10, .int 12, .int 7, .int 9, .int 15, .int 49, .int 8], .own (ps.map frD), s3, .val (.int t), .val (.int 1), s6] ∧ 1 ≤ t ∧ t * 49 ^ r'.length ≤ 117649 ∧ k' + r'.length ≤ k + 4 ∧ r'.length ≤ 3) ?_ ?_ _ _ _ ⟨1, _, _, rfl, Nat.le_refl _, ?_, by rw [rangeD_len]; omega, by rw [rangeD_len]; omega⟩
    · rintro d2 r2 k2 e N2 hN2 ⟨t, s3, s6, rfl, t1, t2, t3, t4⟩
      rw [List.length_cons] at t2 t3 t4
      refine ⟨_, rfl, ?_⟩
      trivial
      refine ⟨_, .inl rfl, by simp, by decide, by unfold Most; omega, fun x hx k3 hk3 => ?_⟩
      obtain ⟨v, rfl, v1, v2⟩ := parts_ok x hx
      trivial
      refine hN2 _ _ ⟨t * v, _, _, by rw [Int.natCast_mul], Nat.mul_pos t1 v1, lot_bound t2 v2, by omega, by omega⟩
    · rintro k2 e ⟨t, s3, s6, rfl, t1, t2, t3, t4⟩
      rw [List.length_nil, Nat.pow_zero, Nat.mul_one] at t2
      trivial
      refine ⟨by omega, by omega, by unfold Most; omega, fun m3 k3 hm3 hk3 => ?_⟩
      trivial
      refine ⟨by omega, by omega, ?_⟩
      rw [toNat_dn]
      refine forL_go (fun r' k' e => ∃ (l : Nat) (s3 s6 : Sl), e = [.pot, .own [.int 2, .int 3, .int 6, .int 4, .int 5, .int 10, .int 12, .int 7, .int 9, .int 15, .int 49, .int 8], .own (ps.map frD), s3, .val (.int t), .val (.int l), s6] ∧ 1 ≤ l ∧ l * 49 ^ r'.length ≤ 117649 ∧ k' + r'.length ≤ k + 7 ∧ r'.length ≤ 3) ?_ ?_ _ _ _ ⟨1, _, _, rfl, Nat.le_refl _, ?_, by rw [rangeD_len, List.length_nil] at *; omega, by rw [rangeD_len]; omega⟩
      · rintro d2 r2 k2 e N2 hN2 ⟨l, s3, s6, rfl, l1, l2, l3, l4⟩
        rw [List.length_cons] at l2 l3 l4
        refine ⟨_, rfl, ?_⟩
        trivial
        refine ⟨_, .inl rfl, by simp, by decide, by unfold Most; omega, fun x hx k3 hk3 => ?_⟩
        obtain ⟨v, rfl, v1, v2⟩ := parts_ok x hx
        trivial
        refine hN2 _ _ ⟨l * v, _, _, by rw [Int.natCast_mul], Nat.mul_pos l1 v1, lot_bound l2 v2, by omega, by omega⟩
      · rintro k4 e ⟨l, s3, s6, rfl, l1, l2, l3, l4⟩
        rw [List.length_nil, Nat.pow_zero, Nat.mul_one] at l2
        trivial
        refine ⟨by omega, by omega, by omega, ?_⟩
        trivial
        have g1 : 0 < Nat.gcd t l := Nat.gcd_pos_of_pos_left _ t1
        have d1 : t / Nat.gcd t l ≤ t := Nat.div_le_self _ _
        have d2 : l / Nat.gcd t l ≤ l := Nat.div_le_self _ _
        have p1 : 1 ≤ t / Nat.gcd t l := Nat.div_pos (Nat.gcd_le_left _ t1) g1
        have p2 : 1 ≤ l / Nat.gcd t l := Nat.div_pos (Nat.gcd_le_right _ l1) g1
        refine ⟨line_lt (by rw [List.length_map]; omega), hN _ _ ⟨ps ++ [(t / Nat.gcd t l, l / Nat.gcd t l)], s3, .val (.int t), .val (.int l), s6, ?_, fun p hpm => ?_, by rw [List.length_append, List.length_singleton]; omega, by rw [List.length_nil] at *; omega⟩⟩
        · rw [List.map_append]
          show _ = [Sl.pot, _, Sl.own (ps.map frD ++ [PyData.tuple [.int ((t / Nat.gcd t l : Nat) : Int), .int ((l / Nat.gcd t l : Nat) : Int)]]), _, _, _, _]
          rw [Int.natCast_ediv, Int.natCast_ediv]
          rfl
        · rcases List.mem_append.mp hpm with e | e
          · exact hp p e
          · rw [List.mem_singleton.mp e]
            refine ⟨⟨p1, ?_, p2, ?_, Nat.coprime_div_gcd_div_gcd g1⟩, ?_, ?_⟩
            · show t / Nat.gcd t l < 2 ^ 20; omega
            · show l / Nat.gcd t l < 2 ^ 20; omega
            · show t / Nat.gcd t l < 2 ^ 17; omega
            · show l / Nat.gcd t l < 2 ^ 17; omega
      · rw [Nat.one_mul, rangeD_len]
        exact Nat.le_trans (Nat.pow_le_pow_right (by decide) (by omega : m3 ≤ 3)) (by decide)
    · rw [Nat.one_mul, rangeD_len]
      exact Nat.le_trans (Nat.pow_le_pow_right (by decide) (by omega : m1 ≤ 3)) (by decide)
  · rintro k e ⟨ps, s3, s4, s5, s6, rfl, hp, hr, hk⟩
    rw [List.length_nil] at hr hk
    trivial
    exact h ps k hp (by omega) (by omega)
end K20

set_option Elab.async false
set_option linter.all false
set_option maxRecDepth 100000
set_option maxHeartbeats 4000000
namespace K20
open PySem PySem.Spec PyProof.Rows L2 PL
open Classical
local macro_rules | `(tactic| trivial) => `(tactic| (repeat (first | (with_reducible first | refine st_bin ?_ | refine st_v0v ?_ | refine st_v0o ?_ | refine st_v1v ?_ | refine st_v1o ?_ | refine st_v2v ?_ | refine st_v2o ?_ | refine st_v3v ?_ | refine st_v3o ?_ | refine st_v4v ?_ | refine st_v4o ?_ | refine st_v5v ?_ | refine st_v5o ?_ | refine st_v6v ?_ | refine st_v6o ?_ | refine st_v7v ?_ | refine st_v7o ?_ | refine st_v8v ?_ | refine st_v8o ?_ | refine st_v9v ?_ | refine st_v9o ?_ | refine st_v10v ?_ | refine st_v10o ?_ | refine st_v11v ?_ | refine st_v11o ?_ | refine st_v12v ?_ | refine st_v12o ?_ | refine st_v13v ?_ | refine st_v13o ?_ | refine st_v14v ?_ | refine st_v14o ?_ | refine st_v15v ?_ | refine st_v15o ?_ | refine st_C ?_ | refine st_cons ?_ | refine st_nil ?_ | refine st_ca ?_ | refine st_bval ?_ | refine st_exb ?_ | refine st_exi ?_ | refine st_exs ?_ | refine st_exl ?_ | refine st_exil ?_ | refine st_exit ?_ | refine st_exiz ?_ | refine st_seq ?_ | refine st_iT ?_ | refine st_iF ?_ | refine st_k0 ?_ | refine st_k1 ?_ | refine st_k2 ?_ | refine st_k3 ?_ | refine st_z0 ?_ | refine st_z1 ?_ | refine st_z2 ?_ | refine st_z3 ?_ | refine st_z4 ?_ | refine st_z5 ?_ | refine st_z6 ?_ | refine st_z7 ?_ | refine st_z8 ?_ | refine st_z9 ?_ | refine st_z10 ?_ | refine st_z11 ?_ | refine st_z12 ?_ | refine st_z13 ?_ | refine st_z14 ?_ | refine st_z15 ?_ | refine st_z16 ?_ | refine st_z17 ?_ | refine st_z18 ?_ | refine st_z19 ?_ | refine st_z20 ?_ | refine st_z21 ?_ | refine st_z22 ?_ | refine st_z23 ?_ | refine st_z24 ?_ | refine st_ret ?_ | refine st_rV ?_ | refine st_rO ?_ | refine st_vR ?_ | refine st_call ?_ | refine st_set ?_ | refine st_if ?_ | refine st_lt ?_ | refine st_le ?_ | refine st_gt ?_ | refine st_ge ?_ | refine st_eqi ?_ | refine st_nei ?_ | refine st_eqs ?_ | refine st_nes ?_ | refine st_add ?_ | refine st_sub ?_ | refine st_is ?_ | refine st_isnot ?_ | refine st_ix0l ?_ | refine st_ix0t ?_ | refine st_ix1l ?_ | refine st_ix1t ?_ | refine st_ix2l ?_ | refine st_ix2t ?_ | refine st_len0l ?_ | refine st_len0t ?_ | refine st_len1l ?_ | refine st_len1t ?_ | refine st_len2l ?_ | refine st_len2t ?_ | refine st_len3l ?_ | refine st_len3t ?_ | refine st_len4l ?_ | refine st_len4t ?_ | refine st_lenl ?_ | refine st_lent ?_ | refine st_abs ?_ | refine st_inti ?_ | refine st_intb ?_ | refine st_tupl ?_ | refine st_tupt ?_ | refine st_listl ?_ | refine st_listt ?_ | refine st_strs ?_ | refine st_max ?_ | refine st_min ?_ | refine st_gcd ?_ | refine st_neg ?_ | refine st_tup ?_ | refine st_lst ?_ | refine st_not ?_ | refine st_and ?_ | refine st_or ?_ | refine st_pnot ?_ | refine st_pand ?_ | refine st_por ?_ | refine st_pif ?_ | refine st_chain ?_ | refine st_isi ?_ | refine st_m1 ?_ | refine st_next ?_ | refine st_break ?_ | refine st_cont ?_ | refine st_retN ?_ | refine st_r0v ?_ | refine st_r0o ?_ | refine st_m0v ?_ | refine st_m0o ?_ | refine st_app0 ?_ | refine st_ext0 ?_ | refine st_gown0 ?_ | refine st_gext0 ?_ | refine st_d0 ?_ | refine st_p00 ?_ | refine st_p10 ?_ | refine st_p20 ?_ | refine st_w00 ?_ | refine st_w20 ?_ | refine st_r1v ?_ | refine st_r1o ?_ | refine st_m1v ?_ | refine st_m1o ?_ | refine st_app1 ?_ | refine st_ext1 ?_ | refine st_gown1 ?_ | refine st_gext1 ?_ | refine st_d1 ?_ | refine st_p01 ?_ | refine st_p11 ?_ | refine st_p21 ?_ | refine st_w01 ?_ | refine st_w21 ?_ | refine st_r2v ?_ | refine st_r2o ?_ | refine st_m2v ?_ | refine st_m2o ?_ | refine st_app2 ?_ | refine st_ext2 ?_ | refine st_gown2 ?_ | refine st_gext2 ?_ | refine st_d2 ?_ | refine st_p02 ?_ | refine st_p12 ?_ | refine st_p22 ?_ | refine st_w02 ?_ | refine st_w22 ?_ | refine st_r3v ?_ | refine st_r3o ?_ | refine st_m3v ?_ | refine st_m3o ?_ | refine st_app3 ?_ | refine st_ext3 ?_ | refine st_gown3 ?_ | refine st_gext3 ?_ | refine st_r4v ?_ | refine st_r4o ?_ | refine st_m4v ?_ | refine st_m4o ?_ | refine st_app4 ?_ | refine st_ext4 ?_ | refine st_gown4 ?_ | refine st_gext4 ?_ | refine st_r5v ?_ | refine st_r5o ?_ | refine st_m5v ?_ | refine st_m5o ?_ | refine st_app5 ?_ | refine st_ext5 ?_ | refine st_gown5 ?_ | refine st_gext5 ?_ | refine st_r6v ?_ | refine st_r6o ?_ | refine st_m6v ?_ | refine st_m6o ?_ | refine st_app6 ?_ | refine st_ext6 ?_ | refine st_gown6 ?_ | refine st_gext6 ?_ | refine st_r7v ?_ | refine st_r7o ?_ | refine st_m7v ?_ | refine st_m7o ?_ | refine st_app7 ?_ | refine st_ext7 ?_ | refine st_gown7 ?_ | refine st_gext7 ?_ | refine st_r8v ?_ | refine st_r8o ?_ | refine st_m8v ?_ | refine st_m8o ?_ | refine st_app8 ?_ | refine st_ext8 ?_ | refine st_gown8 ?_ | refine st_gext8 ?_ | refine st_r9v ?_ | refine st_r9o ?_ | refine st_m9v ?_ | refine st_m9o ?_ | refine st_app9 ?_ | refine st_ext9 ?_ | refine st_gown9 ?_ | refine st_gext9 ?_ | refine st_r10v ?_ | refine st_r10o ?_ | refine st_m10v ?_ | refine st_m10o ?_ | refine st_app10 ?_ | refine st_ext10 ?_ | refine st_gown10 ?_ | refine st_gext10 ?_ | refine st_r11v ?_ | refine st_r11o ?_ | refine st_m11v ?_ | refine st_m11o ?_ | refine st_app11 ?_ | refine st_ext11 ?_ | refine st_gown11 ?_ | refine st_gext11 ?_ | refine st_r12v ?_ | refine st_r12o ?_ | refine st_m12v ?_ | refine st_m12o ?_ | refine st_app12 ?_ | refine st_ext12 ?_ | refine st_gown12 ?_ | refine st_gext12 ?_ | refine st_r13v ?_ | refine st_r13o ?_ | refine st_m13v ?_ | refine st_m13o ?_ | refine st_app13 ?_ | refine st_ext13 ?_ | refine st_gown13 ?_ | refine st_gext13 ?_ | refine st_r14v ?_ | refine st_r14o ?_ | refine st_m14v ?_ | refine st_m14o ?_ | refine st_app14 ?_ | refine st_ext14 ?_ | refine st_gown14 ?_ | refine st_gext14 ?_ | refine st_r15v ?_ | refine st_r15o ?_ | refine st_m15v ?_ | refine st_m15o ?_ | refine st_app15 ?_ | refine st_ext15 ?_ | refine st_gown15 ?_ | refine st_gext15 ?_ | refine st_par ?_ | refine st_asg ?_ | refine st_ex ?_ | refine st_mR ?_ | refine st_mtup ?_ | refine st_mnil ?_ | refine st_mcons ?_ | refine st_for ?_ | refine st_imseq ?_ | refine st_iseq ?_ | refine st_imof ?_ | refine st_imr1 ?_ | refine st_ir1 ?_ | refine st_imr2 ?_ | refine st_enu ?_ | refine st_enl ?_ | refine st_ent ?_ | refine st_zip ?_ | refine st_zl ?_ | refine st_zt ?_ | refine st_lc ?_ | refine st_lc2 ?_ | refine st_oca ?_ | refine st_cat ?_ | refine st_excat ?_ | refine st_sll ?_ | refine st_sl ?_ | refine st_rev ?_ | refine st_nno ?_ | refine st_nat ?_ | refine st_tname ?_ | refine st_tt2 ?_ | refine st_mod (by omega) ?_ | refine st_fdv (by omega) (by omega) ?_ | refine st_mull (by omega) (by omega) ?_ | refine st_mulr (by omega) (by omega) ?_ | refine st_pow (by decide) (by decide) (by decide) ?_ | refine e_is_integer ?_ | refine e_common ?_ | refine e_is_fraction ?_ | refine e_law_common (by omega) (by omega) (by omega) (by omega) ?_) | (simp only [keepR, lfr, lf, lfs, frz, frz1, Rv.sl, Rv.d, updE, wipeE, fill_cc, fill_cn, fill_nn, dn, lfs_nL, lf_expoD, isI_dn, lfs_frD, isT_int_none, isT_int_bool, isT_int_int, isT_int_str, isT_int_list, isT_int_tuple, isT_bool_none, isT_bool_bool, isT_bool_int, isT_bool_str, isT_bool_list, isT_bool_tuple, isT_str_none, isT_str_bool, isT_str_int, isT_str_str, isT_str_list, isT_str_tuple, isT_list_none, isT_list_bool, isT_list_int, isT_list_str, isT_list_list, isT_list_tuple, isT_tuple_none, isT_tuple_bool, isT_tuple_int, isT_tuple_str, isT_tuple_list, isT_tuple_tuple, List.set_cons_zero, List.set_cons_succ, List.map_cons, List.map_nil, List.cons_append, List.nil_append, List.append_nil, Nat.reduceAdd, Nat.reduceSub, Nat.zero_add, Bool.and_true, Bool.true_and, Bool.and_self, Bool.not_true, Bool.not_false, Bool.and_false, Bool.false_and, Bool.or_false, Bool.false_or, Bool.or_true, Bool.true_or, if_true, reduceIte, isN, Bool.false_eq_true, if_false, Int.cast_ofNat_Int, Int.natCast_zero, Int.natCast_one, true_and, decide_true, decide_false, eq_self]))))
theorem isN_none {d : D} (h : isN d = true) : d = .none := by cases d <;> first | rfl | cases h
def signG : D → D
  | .str z => .bool ((z.cps.toList[0]?).elim false isFig)
  | d => d
theorem v_fig : v_FIGURES.cps.toList = (S "0123456789").cps.toList := rfl
theorem sl_str {z : PySem.Str} (h : z.length ≤ 10000) : z.length ≤ sizeLine := line_le (by omega)
theorem figs_len {z : PySem.Str} (h : z.length ≤ 10000) : (figs z).length ≤ 10000 := by
  rw [len_of, tl_figs]
  rw [len_of] at h
  split
  · rename_i cs e
    rw [e, List.length_cons] at h
    omega
  · exact h
theorem signs_map (z : PySem.Str) : (PL.signs z).map signG = (TL.tl z).map fun c => PyData.bool (isFig c) := by
  unfold PL.signs
  rw [List.map_map]
  rfl
theorem h_read_integer : ∀ (ds : List D) (Q : Rv → Prop), ds.length = 1 → f_read_integer ds Q → p_read_integer { nx := fun _ _ => Q (.val .none), rt := fun _ r => Q r } 0 (PL.fill ["text", "figures", "sign"] (ds.map Sl.val)) := by
  intro ds Q hl h
  match ds, h with
  | [.str z], ⟨hz, h⟩ =>
    unfold p_read_integer
    trivial
    refine ⟨sl_str hz, ?_⟩
    trivial
    have fin : ∀ g : PySem.Str, g = figs z → sSeq (sIf (bOr (bNot (bVal (pChain oLe oLe (pC (.int 1)) (pCa oLen (pCons (pVar 1) pNil)) (pC (.int v_MOST_FIGURES))))) (bNot (bVal (pCa oAll (pCons (vR (rO (oLc (iSeq (pVar 1)) (tName 2) bYes (pBin oIn (pVar 2) (pC (.str v_FIGURES))) [2]))) pNil))))) (sRet (rV (pC .none))) sNext)
      (sSeq (sIf (bAnd (bVal (pBin oEqS (pBin oIx (pVar 1) (pC (.int 0))) (pC (.str (("0" : PySem.Str)))))) (bOr (bVal (pBin oGt (pCa oLen (pCons (pVar 1) pNil)) (pC (.int 1)))) (bVal (pBin oNeS (pVar 0) (pVar 1))))) (sRet (rV (pC .none))) sNext)
      (sRet (rV (pCa oInt (pCons (pVar 0) pNil))))) { nx := fun _ _ => Q (.val .none), rt := fun _ r => Q r } 0 [.val (.str z), .val (.str g), .un] := by
      rintro g rfl
      have gz := figs_len hz
      trivial
      refine ⟨sl_str gz, ?_⟩
      trivial
      have hI := okI_iff z
      have nope : okI z = false → Q (.val .none) := fun e => by
        unfold rI at h
        rw [if_neg (by rw [e]; simp)] at h
        exact h
      by_cases c1 : (1 : Int) ≤ ((figs z).length : Int)
      · rw [decide_eq_true c1]
        trivial
        by_cases c2 : ((figs z).length : Int) ≤ v_MOST_FIGURES
        · rw [decide_eq_true c2]
          trivial
          refine comp_all signG (fun d hd => ?_) (line_le (by unfold PL.signs; rw [List.length_map]; show (TL.tl (figs z)).length ≤ _; rw [← len_of]; omega)) ?_
          · unfold PL.signs at hd
            obtain ⟨c, hc, rfl⟩ := List.mem_map.mp hd
            refine ⟨_, rfl, fun R hR => ?_⟩
            trivial
            exact ⟨c, rfl, hR⟩
          rw [signs_map]
          trivial
          refine oAll_map ?_
          by_cases c3 : ((TL.tl (figs z)).all isFig) = true
          · rw [c3]
            trivial
            have c1' : 1 ≤ (TL.tl (figs z)).length := by rw [← len_of]; omega
            have c2' : (TL.tl (figs z)).length ≤ 300 := by rw [← len_of]; unfold v_MOST_FIGURES at c2; omega
            have c3' : NumText.AllDigits (TL.tl (figs z)) := fun c hc => (fig_iff c).mp (List.all_eq_true.mp c3 c hc)
            obtain ⟨c0, cs, ec⟩ : ∃ c cs, TL.tl (figs z) = c :: cs := by
              cases e : TL.tl (figs z) with
              | nil => rw [e] at c1'; simp at c1'
              | cons c cs => exact ⟨c, cs, rfl⟩
            refine ⟨sl_str gz, c0, by rw [show (figs z).cps.toList = c0 :: cs from ec]; exact atI_zero _ _, ?_⟩
            trivial
            have zero : (⟨#[c0]⟩ : PySem.Str) = (("0" : PySem.Str)) ↔ c0 = 48 := by
              constructor
              · intro e
                have := congrArg TL.tl e
                rw [show TL.tl (("0" : PySem.Str)) = [48] by decide +kernel] at this
                have e2 : [c0] = [48] := this
                injection e2
              · intro e
                subst e
                exact TL.ext_tl (by rw [show TL.tl (("0" : PySem.Str)) = [48] by decide +kernel])
            have good : ¬ (c0 = 48 ∧ (1 < (figs z).length ∨ z ≠ figs z)) → okI z = true := fun q => hI.mpr ⟨c1', c2', c3', fun ⟨g1, g2⟩ => q ⟨by rw [ec] at g1; simpa using g1, by rw [len_of]; exact g2⟩⟩
            have bad : c0 = 48 → (1 < (figs z).length ∨ z ≠ figs z) → okI z = false := fun q1 q2 => by
              rw [Bool.eq_false_iff]
              intro q
              exact (hI.mp q).2.2.2 ⟨by rw [ec, q1]; rfl, by rw [← len_of]; exact q2⟩
            have done_ : okI z = true → oInt [.str z] fun d => Q (.val d) := fun q => by
              obtain ⟨m, hm⟩ := ok_int q
              refine ⟨m, hm, ?_, ?_⟩
              · have : z.length ≤ (figs z).length + 1 := by
                  rw [len_of, len_of, tl_figs]
                  split
                  · rename_i cs e; rw [e, List.length_cons]; omega
                  · omega
                rw [len_of (figs z)] at this
                omega
              · unfold rI at h
                rw [if_pos q, hm] at h
                exact h
            by_cases c4 : c0 = 48
            · rw [decide_eq_true (zero.mpr c4)]
              trivial
              refine ⟨sl_str gz, ?_⟩
              trivial
              by_cases c5 : (1 : Int) < ((figs z).length : Int)
              · rw [decide_eq_true c5]
                trivial
                exact nope (bad c4 (.inl (by omega)))
              · rw [decide_eq_false c5]
                trivial
                by_cases c6 : z = figs z
                · rw [decide_eq_true c6]
                  trivial
                  refine done_ (good fun q => ?_)
                  rcases q.2 with q | q
                  · omega
                  · exact q c6
                · rw [decide_eq_false c6]
                  trivial
                  exact nope (bad c4 (.inr c6))
            · rw [decide_eq_false fun q => c4 (zero.mp q)]
              trivial
              exact done_ (good fun q => c4 q.1)
          · have c3' : (TL.tl (figs z)).all isFig = false := Bool.eq_false_iff.mpr c3
            rw [c3']
            trivial
            refine nope (Bool.eq_false_iff.mpr fun q => c3 ?_)
            exact List.all_eq_true.mpr fun c hc => (fig_iff c).mpr ((hI.mp q).2.2.1 c hc)
        · rw [decide_eq_false c2]
          trivial
          refine nope (Bool.eq_false_iff.mpr fun q => c2 ?_)
          have := (hI.mp q).2.1
          rw [← len_of] at this
          unfold v_MOST_FIGURES
          omega
      · rw [decide_eq_false c1]
        trivial
        refine nope (Bool.eq_false_iff.mpr fun q => c1 ?_)
        have := (hI.mp q).1
        rw [← len_of] at this
        omega
    by_cases c : cutT z none (some 1) = v_MINUS
    · rw [decide_eq_true c]
      trivial
      refine ⟨sl_str hz, ?_⟩
      trivial
      refine fin _ ?_
      unfold figs
      rw [if_pos (show cutT z none (some 1) = S "-" from c)]
    · rw [decide_eq_false c]
      trivial
      refine fin _ ?_
      unfold figs
      rw [if_neg (show ¬ cutT z none (some 1) = S "-" from c)]
end K20

set_option Elab.async false
set_option linter.all false
set_option maxRecDepth 100000
set_option maxHeartbeats 4000000
namespace K20
open PySem PySem.Spec PyProof.Rows L2 PL
open Classical
local macro_rules | `(tactic| trivial) => `(tactic| (repeat (first | (with_reducible first | refine st_bin ?_ | refine st_v0v ?_ | refine st_v0o ?_ | refine st_v1v ?_ | refine st_v1o ?_ | refine st_v2v ?_ | refine st_v2o ?_ | refine st_v3v ?_ | refine st_v3o ?_ | refine st_v4v ?_ | refine st_v4o ?_ | refine st_v5v ?_ | refine st_v5o ?_ | refine st_v6v ?_ | refine st_v6o ?_ | refine st_v7v ?_ | refine st_v7o ?_ | refine st_v8v ?_ | refine st_v8o ?_ | refine st_v9v ?_ | refine st_v9o ?_ | refine st_v10v ?_ | refine st_v10o ?_ | refine st_v11v ?_ | refine st_v11o ?_ | refine st_v12v ?_ | refine st_v12o ?_ | refine st_v13v ?_ | refine st_v13o ?_ | refine st_v14v ?_ | refine st_v14o ?_ | refine st_v15v ?_ | refine st_v15o ?_ | refine st_C ?_ | refine st_cons ?_ | refine st_nil ?_ | refine st_ca ?_ | refine st_bval ?_ | refine st_exb ?_ | refine st_exi ?_ | refine st_exs ?_ | refine st_exl ?_ | refine st_exil ?_ | refine st_exit ?_ | refine st_exiz ?_ | refine st_seq ?_ | refine st_iT ?_ | refine st_iF ?_ | refine st_k0 ?_ | refine st_k1 ?_ | refine st_k2 ?_ | refine st_k3 ?_ | refine st_z0 ?_ | refine st_z1 ?_ | refine st_z2 ?_ | refine st_z3 ?_ | refine st_z4 ?_ | refine st_z5 ?_ | refine st_z6 ?_ | refine st_z7 ?_ | refine st_z8 ?_ | refine st_z9 ?_ | refine st_z10 ?_ | refine st_z11 ?_ | refine st_z12 ?_ | refine st_z13 ?_ | refine st_z14 ?_ | refine st_z15 ?_ | refine st_z16 ?_ | refine st_z17 ?_ | refine st_z18 ?_ | refine st_z19 ?_ | refine st_z20 ?_ | refine st_z21 ?_ | refine st_z22 ?_ | refine st_z23 ?_ | refine st_z24 ?_ | refine st_ret ?_ | refine st_rV ?_ | refine st_rO ?_ | refine st_vR ?_ | refine st_call ?_ | refine st_set ?_ | refine st_if ?_ | refine st_lt ?_ | refine st_le ?_ | refine st_gt ?_ | refine st_ge ?_ | refine st_eqi ?_ | refine st_nei ?_ | refine st_eqs ?_ | refine st_nes ?_ | refine st_add ?_ | refine st_sub ?_ | refine st_is ?_ | refine st_isnot ?_ | refine st_ix0l ?_ | refine st_ix0t ?_ | refine st_ix1l ?_ | refine st_ix1t ?_ | refine st_ix2l ?_ | refine st_ix2t ?_ | refine st_len0l ?_ | refine st_len0t ?_ | refine st_len1l ?_ | refine st_len1t ?_ | refine st_len2l ?_ | refine st_len2t ?_ | refine st_len3l ?_ | refine st_len3t ?_ | refine st_len4l ?_ | refine st_len4t ?_ | refine st_lenl ?_ | refine st_lent ?_ | refine st_abs ?_ | refine st_inti ?_ | refine st_intb ?_ | refine st_tupl ?_ | refine st_tupt ?_ | refine st_listl ?_ | refine st_listt ?_ | refine st_strs ?_ | refine st_max ?_ | refine st_min ?_ | refine st_gcd ?_ | refine st_neg ?_ | refine st_tup ?_ | refine st_lst ?_ | refine st_not ?_ | refine st_and ?_ | refine st_or ?_ | refine st_pnot ?_ | refine st_pand ?_ | refine st_por ?_ | refine st_pif ?_ | refine st_chain ?_ | refine st_isi ?_ | refine st_m1 ?_ | refine st_next ?_ | refine st_break ?_ | refine st_cont ?_ | refine st_retN ?_ | refine st_r0v ?_ | refine st_r0o ?_ | refine st_m0v ?_ | refine st_m0o ?_ | refine st_app0 ?_ | refine st_ext0 ?_ | refine st_gown0 ?_ | refine st_gext0 ?_ | refine st_d0 ?_ | refine st_p00 ?_ | refine st_p10 ?_ | refine st_p20 ?_ | refine st_w00 ?_ | refine st_w20 ?_ | refine st_r1v ?_ | refine st_r1o ?_ | refine st_m1v ?_ | refine st_m1o ?_ | refine st_app1 ?_ | refine st_ext1 ?_ | refine st_gown1 ?_ | refine st_gext1 ?_ | refine st_d1 ?_ | refine st_p01 ?_ | refine st_p11 ?_ | refine st_p21 ?_ | refine st_w01 ?_ | refine st_w21 ?_ | refine st_r2v ?_ | refine st_r2o ?_ | refine st_m2v ?_ | refine st_m2o ?_ | refine st_app2 ?_ | refine st_ext2 ?_ | refine st_gown2 ?_ | refine st_gext2 ?_ | refine st_d2 ?_ | refine st_p02 ?_ | refine st_p12 ?_ | refine st_p22 ?_ | refine st_w02 ?_ | refine st_w22 ?_ | refine st_r3v ?_ | refine st_r3o ?_ | refine st_m3v ?_ | refine st_m3o ?_ | refine st_app3 ?_ | refine st_ext3 ?_ | refine st_gown3 ?_ | refine st_gext3 ?_ | refine st_r4v ?_ | refine st_r4o ?_ | refine st_m4v ?_ | refine st_m4o ?_ | refine st_app4 ?_ | refine st_ext4 ?_ | refine st_gown4 ?_ | refine st_gext4 ?_ | refine st_r5v ?_ | refine st_r5o ?_ | refine st_m5v ?_ | refine st_m5o ?_ | refine st_app5 ?_ | refine st_ext5 ?_ | refine st_gown5 ?_ | refine st_gext5 ?_ | refine st_r6v ?_ | refine st_r6o ?_ | refine st_m6v ?_ | refine st_m6o ?_ | refine st_app6 ?_ | refine st_ext6 ?_ | refine st_gown6 ?_ | refine st_gext6 ?_ | refine st_r7v ?_ | refine st_r7o ?_ | refine st_m7v ?_ | refine st_m7o ?_ | refine st_app7 ?_ | refine st_ext7 ?_ | refine st_gown7 ?_ | refine st_gext7 ?_ | refine st_r8v ?_ | refine st_r8o ?_ | refine st_m8v ?_ | refine st_m8o ?_ | refine st_app8 ?_ | refine st_ext8 ?_ | refine st_gown8 ?_ | refine st_gext8 ?_ | refine st_r9v ?_ | refine st_r9o ?_ | refine st_m9v ?_ | refine st_m9o ?_ | refine st_app9 ?_ | refine st_ext9 ?_ | refine st_gown9 ?_ | refine st_gext9 ?_ | refine st_r10v ?_ | refine st_r10o ?_ | refine st_m10v ?_ | refine st_m10o ?_ | refine st_app10 ?_ | refine st_ext10 ?_ | refine st_gown10 ?_ | refine st_gext10 ?_ | refine st_r11v ?_ | refine st_r11o ?_ | refine st_m11v ?_ | refine st_m11o ?_ | refine st_app11 ?_ | refine st_ext11 ?_ | refine st_gown11 ?_ | refine st_gext11 ?_ | refine st_r12v ?_ | refine st_r12o ?_ | refine st_m12v ?_ | refine st_m12o ?_ | refine st_app12 ?_ | refine st_ext12 ?_ | refine st_gown12 ?_ | refine st_gext12 ?_ | refine st_r13v ?_ | refine st_r13o ?_ | refine st_m13v ?_ | refine st_m13o ?_ | refine st_app13 ?_ | refine st_ext13 ?_ | refine st_gown13 ?_ | refine st_gext13 ?_ | refine st_r14v ?_ | refine st_r14o ?_ | refine st_m14v ?_ | refine st_m14o ?_ | refine st_app14 ?_ | refine st_ext14 ?_ | refine st_gown14 ?_ | refine st_gext14 ?_ | refine st_r15v ?_ | refine st_r15o ?_ | refine st_m15v ?_ | refine st_m15o ?_ | refine st_app15 ?_ | refine st_ext15 ?_ | refine st_gown15 ?_ | refine st_gext15 ?_ | refine st_par ?_ | refine st_asg ?_ | refine st_ex ?_ | refine st_mR ?_ | refine st_mtup ?_ | refine st_mnil ?_ | refine st_mcons ?_ | refine st_for ?_ | refine st_imseq ?_ | refine st_iseq ?_ | refine st_imof ?_ | refine st_imr1 ?_ | refine st_ir1 ?_ | refine st_imr2 ?_ | refine st_enu ?_ | refine st_enl ?_ | refine st_ent ?_ | refine st_zip ?_ | refine st_zl ?_ | refine st_zt ?_ | refine st_lc ?_ | refine st_lc2 ?_ | refine st_oca ?_ | refine st_cat ?_ | refine st_excat ?_ | refine st_sll ?_ | refine st_sl ?_ | refine st_rev ?_ | refine st_nno ?_ | refine st_nat ?_ | refine st_tname ?_ | refine st_tt2 ?_ | refine st_mod (by omega) ?_ | refine st_fdv (by omega) (by omega) ?_ | refine st_mull (by omega) (by omega) ?_ | refine st_mulr (by omega) (by omega) ?_ | refine st_pow (by decide) (by decide) (by decide) ?_ | refine e_is_integer ?_ | refine e_common ?_ | refine e_is_fraction ?_ | refine e_law_common (by omega) (by omega) (by omega) (by omega) ?_) | (simp only [keepR, lfr, lf, lfs, frz, frz1, Rv.sl, Rv.d, updE, wipeE, fill_cc, fill_cn, fill_nn, dn, lfs_nL, lf_expoD, isI_dn, lfs_frD, isT_int_none, isT_int_bool, isT_int_int, isT_int_str, isT_int_list, isT_int_tuple, isT_bool_none, isT_bool_bool, isT_bool_int, isT_bool_str, isT_bool_list, isT_bool_tuple, isT_str_none, isT_str_bool, isT_str_int, isT_str_str, isT_str_list, isT_str_tuple, isT_list_none, isT_list_bool, isT_list_int, isT_list_str, isT_list_list, isT_list_tuple, isT_tuple_none, isT_tuple_bool, isT_tuple_int, isT_tuple_str, isT_tuple_list, isT_tuple_tuple, List.set_cons_zero, List.set_cons_succ, List.map_cons, List.map_nil, List.cons_append, List.nil_append, List.append_nil, Nat.reduceAdd, Nat.reduceSub, Nat.zero_add, Bool.and_true, Bool.true_and, Bool.and_self, Bool.not_true, Bool.not_false, Bool.and_false, Bool.false_and, Bool.or_false, Bool.false_or, Bool.or_true, Bool.true_or, if_true, reduceIte, isN, Bool.false_eq_true, if_false, Int.cast_ofNat_Int, Int.natCast_zero, Int.natCast_one, true_and, decide_true, decide_false, eq_self]))))
def f_int0 : FT := fun ds Q => match ds with
  | [.int i] => 0 ≤ i ∧ i.natAbs.log2 < 1900 ∧ Q (.val (.str (tsI i)))
  | _ => False
theorem part_big {i : Int} (h : i.natAbs.log2 < 1900) : ¬ v_PART ≤ i := by
  intro q
  unfold v_PART at q
  have h1 : i.natAbs < 2 ^ 1900 := by
    by_cases z : i.natAbs = 0
    · rw [z]; exact Nat.two_pow_pos _
    · exact (Nat.log2_lt z).mp h
  have h2 : 2 ^ 1900 ≤ 10 ^ 4000 := by decide +kernel
  have h3 : 10 ^ 4000 ≤ i.natAbs := by
    generalize 10 ^ 4000 = W at *
    omega
  omega
theorem str_nil (z : PySem.Str) : z ++ (("" : PySem.Str)) = z := TL.ext_tl (by rw [TL.tl_append, show TL.tl (("" : PySem.Str)) = [] by decide +kernel, List.append_nil])
theorem ts_len {i : Int} (h : i.natAbs.log2 < 1920) : (tsI i).length ≤ 1921 := int_text_len_1921 h
theorem int_tail {i : Int} {Q : Rv → Prop} (h0 : 0 ≤ i) (h1 : i.natAbs.log2 < 1900) (h : Q (.val (.str (tsI i)))) (Φs : FT) : p_integer_text Φs { nx := fun _ _ => Q (.val .none), rt := fun _ r => Q r } 0 (PL.fill ["one", "parts", "rest"] ([PyData.int i].map Sl.val)) := by
  unfold p_integer_text
  trivial
  rw [decide_eq_false (by omega : ¬ i < 0)]
  trivial
  unfold sWhile
  refine ⟨fun μ k e => k = 0 ∧ e = [.val (.int i), .own [], .val (.int i)], ⟨0, rfl, rfl⟩, ?_⟩
  rintro μ k e ⟨rfl, rfl⟩
  trivial
  rw [decide_eq_false (part_big h1)]
  trivial
  refine ⟨by omega, ?_⟩
  trivial
  refine ⟨[], .inl rfl, by decide, ?_⟩
  have l := ts_len (i := i) (by omega)
  have e : Txt.join (("" : PySem.Str)) [] = (("" : PySem.Str)) := rfl
  rw [e]
  refine ⟨line_le (by show (tsI i).length + 0 ≤ _; omega), ?_⟩
  rw [str_nil]
  exact h
theorem h_integer_text0 (Φs : FT) : ∀ (ds : List D) (Q : Rv → Prop), ds.length = 1 → f_int0 ds Q → p_integer_text Φs { nx := fun _ _ => Q (.val .none), rt := fun _ r => Q r } 0 (PL.fill ["one", "parts", "rest"] (ds.map Sl.val)) := by
  intro ds Q hl h
  match ds, h with
  | [.int i], ⟨h0, h1, h⟩ => exact int_tail h0 h1 h Φs
theorem h_integer_text : ∀ (ds : List D) (Q : Rv → Prop), ds.length = 1 → f_integer_text ds Q → p_integer_text f_int0 { nx := fun _ _ => Q (.val .none), rt := fun _ r => Q r } 0 (PL.fill ["one", "parts", "rest"] (ds.map Sl.val)) := by
  intro ds Q hl h
  match ds, h with
  | [.int i], ⟨h1, h⟩ =>
    by_cases c : i < 0
    · unfold p_integer_text
      trivial
      rw [decide_eq_true c]
      trivial
      refine ⟨by omega, by rw [show (0 - i).natAbs = i.natAbs by omega]; exact h1, ?_⟩
      trivial
      have l := ts_len (i := 0 - i) (by rw [show (0 - i).natAbs = i.natAbs by omega]; omega)
      refine ⟨line_le (by show 1 + (tsI (0 - i)).length ≤ _; omega), ?_⟩
      rw [show v_MINUS ++ tsI (0 - i) = tsI i from neg_text c]
      exact h
    · exact int_tail (by omega) h1 h _
theorem h_fraction_text : ∀ (ds : List D) (Q : Rv → Prop), ds.length = 1 → f_fraction_text ds Q → p_fraction_text { nx := fun _ _ => Q (.val .none), rt := fun _ r => Q r } 0 (PL.fill ["one"] (ds.map Sl.val)) := by
  intro ds Q hl h
  match ds, h with
  | [.tuple [.int a, .int c]], ⟨h1, h2, h⟩ =>
    unfold p_fraction_text
    trivial
    have la := ts_len (i := a) (by omega)
    have lc := ts_len (i := c) (by omega)
    by_cases z : c = 1
    · rw [decide_eq_true z]
      rw [if_pos z] at h
      trivial
      refine ⟨h1, ?_⟩
      exact h
    · rw [decide_eq_false z]
      rw [if_neg z] at h
      trivial
      refine ⟨h1, ?_⟩
      trivial
      refine ⟨line_le (by show (tsI a).length + 1 ≤ _; omega), ?_⟩
      trivial
      refine ⟨h2, ?_⟩
      trivial
      have e : (tsI a ++ v_STROKE).length = (tsI a).length + 1 := by rw [TL.len_tl, TL.tl_append, List.length_append, ← TL.len_tl]; rfl
      refine ⟨line_le (by rw [e]; omega), ?_⟩
      exact h
theorem rI_cases (z : PySem.Str) : rI z = .none ∨ ∃ n, rI z = .int n := by
  unfold rI
  split
  · split
    · exact .inr ⟨_, rfl⟩
    · exact .inl rfl
  · exact .inl rfl
def rIG : D → D
  | .str z => rI z
  | d => d
theorem rIG_map (l : List PySem.Str) : (l.map PyData.str).map rIG = l.map rI := by rw [List.map_map]; rfl
theorem lfs_rI : ∀ l : List PySem.Str, lfs (l.map rI) = true
  | [] => rfl
  | z :: l => by
    show (lf (rI z) && lfs (l.map rI)) = true
    rw [lfs_rI l]
    rcases rI_cases z with e | ⟨n, e⟩ <;> rw [e] <;> rfl
theorem flat_rI {l : List PySem.Str} {d : D} (h : d ∈ l.map rI) : flat d = true := by
  obtain ⟨z, _, rfl⟩ := List.mem_map.mp h
  rcases rI_cases z with e | ⟨n, e⟩ <;> rw [e] <;> rfl
theorem h_read_fraction : ∀ (ds : List D) (Q : Rv → Prop), ds.length = 1 → f_read_fraction ds Q → p_read_fraction { nx := fun _ _ => Q (.val .none), rt := fun _ r => Q r } 0 (PL.fill ["text", "parts", "numbers", "found", "part"] (ds.map Sl.val)) := by
  intro ds Q hl h
  match ds, h with
  | [.none], h =>
    unfold p_read_fraction
    trivial
    unfold compL
    trivial
    rw [decide_eq_false (by decide)]
    trivial
    exact h
  | [.int _], h =>
    unfold p_read_fraction
    trivial
    unfold compL
    trivial
    rw [decide_eq_false (by decide)]
    trivial
    exact h
  | [.bool _], h =>
    unfold p_read_fraction
    trivial
    unfold compL
    trivial
    rw [decide_eq_false (by decide)]
    trivial
    exact h
  | [.tuple _], h =>
    unfold p_read_fraction
    trivial
    unfold compL
    trivial
    rw [decide_eq_false (by decide)]
    trivial
    exact h
  | [.str z], ⟨hz, h⟩ =>
    unfold p_read_fraction
    trivial
    refine ⟨v_STROKE, rfl, by decide, line_le (by omega), ?_⟩
    trivial
    have hlen := split_le z v_STROKE
    refine comp_all rIG (fun d hd => ?_) (line_le (by rw [List.length_map]; omega)) ?_
    · obtain ⟨p, hp, rfl⟩ := List.mem_map.mp hd
      have := part_short hp
      refine ⟨_, rfl, fun R hR => ?_⟩
      trivial
      refine ⟨by omega, ?_⟩
      exact hR
    rw [rIG_map]
    trivial
    rw [lfs_rI]
    trivial
    have hF : rF z = match (Txt.split z v_STROKE).map rI with
      | [.int a] => .tuple [.int a, .int 1]
      | [.int a, .int b] => if decide (1 < b) && isFr (.tuple [.int a, .int b]) then .tuple [.int a, .int b] else .none
      | _ => .none := rfl
    rw [hF] at h
    have pos := split_pos z v_STROKE
    rw [List.length_map]
    rw [decide_eq_true (by omega : (1 : Int) ≤ ((Txt.split z v_STROKE).length : Int))]
    trivial
    match hL : Txt.split z v_STROKE, pos with
    | [p], _ =>
      rw [hL] at h
      rw [decide_eq_true (by show ((1 : Nat) : Int) ≤ 2; decide)]
      trivial
      refine ⟨shaped_none, shaped_list fun d hd => flat_rI (l := [p]) hd, ?_⟩
      rcases rI_cases p with e | ⟨m, e⟩
      · rw [show ([p].map rI) = [rI p] from rfl] at h
        rw [e] at h ⊢
        rw [show ([PyData.none].any fun z => PyData.eqv z .none) = true by simp [PyData.eqv]]
        trivial
        exact h
      · rw [show ([p].map rI) = [rI p] from rfl] at h
        rw [e] at h ⊢
        rw [show ([PyData.int m].any fun z => PyData.eqv z .none) = false by simp [PyData.eqv]]
        trivial
        exact h
    | [p, q], _ =>
      rw [hL] at h
      rw [decide_eq_true (by show ((2 : Nat) : Int) ≤ 2; decide)]
      trivial
      refine ⟨shaped_none, shaped_list fun d hd => flat_rI (l := [p, q]) hd, ?_⟩
      rw [show ([p, q].map rI) = [rI p, rI q] from rfl] at h
      rcases rI_cases p with e | ⟨m, e⟩
      · rw [e] at h ⊢
        rw [show ([PyData.none, rI q].any fun z => PyData.eqv z .none) = true by simp [PyData.eqv]]
        trivial
        exact h
      · rw [e] at h ⊢
        rcases rI_cases q with e2 | ⟨m2, e2⟩
        · rw [e2] at h ⊢
          rw [show ([PyData.int m, .none].any fun z => PyData.eqv z .none) = true by simp [PyData.eqv]]
          trivial
          exact h
        · rw [e2] at h ⊢
          rw [show ([PyData.int m, .int m2].any fun z => PyData.eqv z .none) = false by simp [PyData.eqv]]
          trivial
          rw [decide_eq_false (by decide : ¬ (2 : Int) = 1)]
          trivial
          have h : Q (.val (if (decide (1 < m2) && isFr (.tuple [.int m, .int m2])) = true then .tuple [.int m, .int m2] else .none)) := h
          by_cases c : 1 < m2
          · rw [decide_eq_true c] at h ⊢
            trivial
            cases c2 : isFr (.tuple [.int m, .int m2])
            · rw [c2] at h
              trivial
              exact h
            · rw [c2] at h
              trivial
              exact h
          · rw [decide_eq_false c] at h ⊢
            trivial
            exact h
    | p :: q :: r :: t, _ =>
      rw [hL] at h
      rw [decide_eq_false (by show ¬ (((t.length + 3 : Nat)) : Int) ≤ 2; omega)]
      trivial
      have h2 : Q (.val .none) := by
        have e : (match (p :: q :: r :: t).map rI with
          | [.int a] => PyData.tuple [.int a, .int 1]
          | [.int a, .int b] => if decide (1 < b) && isFr (.tuple [.int a, .int b]) then .tuple [.int a, .int b] else .none
          | _ => .none) = .none := by
          rw [List.map_cons, List.map_cons, List.map_cons]
          rcases rI_cases p with e | ⟨m, e⟩ <;> rcases rI_cases q with e2 | ⟨m2, e2⟩ <;> rw [e, e2]
        rw [e] at h
        exact h
      exact h2
end K20

set_option Elab.async false
set_option linter.all false
set_option maxRecDepth 100000
set_option maxHeartbeats 4000000
namespace K20
open PySem PySem.Spec PyProof.Rows L2 PL
open Classical
local macro_rules | `(tactic| trivial) => `(tactic| (repeat (first | (with_reducible first | refine st_bin ?_ | refine st_v0v ?_ | refine st_v0o ?_ | refine st_v1v ?_ | refine st_v1o ?_ | refine st_v2v ?_ | refine st_v2o ?_ | refine st_v3v ?_ | refine st_v3o ?_ | refine st_v4v ?_ | refine st_v4o ?_ | refine st_v5v ?_ | refine st_v5o ?_ | refine st_v6v ?_ | refine st_v6o ?_ | refine st_v7v ?_ | refine st_v7o ?_ | refine st_v8v ?_ | refine st_v8o ?_ | refine st_v9v ?_ | refine st_v9o ?_ | refine st_v10v ?_ | refine st_v10o ?_ | refine st_v11v ?_ | refine st_v11o ?_ | refine st_v12v ?_ | refine st_v12o ?_ | refine st_v13v ?_ | refine st_v13o ?_ | refine st_v14v ?_ | refine st_v14o ?_ | refine st_v15v ?_ | refine st_v15o ?_ | refine st_C ?_ | refine st_cons ?_ | refine st_nil ?_ | refine st_ca ?_ | refine st_bval ?_ | refine st_exb ?_ | refine st_exi ?_ | refine st_exs ?_ | refine st_exl ?_ | refine st_exil ?_ | refine st_exit ?_ | refine st_exiz ?_ | refine st_seq ?_ | refine st_iT ?_ | refine st_iF ?_ | refine st_k0 ?_ | refine st_k1 ?_ | refine st_k2 ?_ | refine st_k3 ?_ | refine st_z0 ?_ | refine st_z1 ?_ | refine st_z2 ?_ | refine st_z3 ?_ | refine st_z4 ?_ | refine st_z5 ?_ | refine st_z6 ?_ | refine st_z7 ?_ | refine st_z8 ?_ | refine st_z9 ?_ | refine st_z10 ?_ | refine st_z11 ?_ | refine st_z12 ?_ | refine st_z13 ?_ | refine st_z14 ?_ | refine st_z15 ?_ | refine st_z16 ?_ | refine st_z17 ?_ | refine st_z18 ?_ | refine st_z19 ?_ | refine st_z20 ?_ | refine st_z21 ?_ | refine st_z22 ?_ | refine st_z23 ?_ | refine st_z24 ?_ | refine st_ret ?_ | refine st_rV ?_ | refine st_rO ?_ | refine st_vR ?_ | refine st_call ?_ | refine st_set ?_ | refine st_if ?_ | refine st_lt ?_ | refine st_le ?_ | refine st_gt ?_ | refine st_ge ?_ | refine st_eqi ?_ | refine st_nei ?_ | refine st_eqs ?_ | refine st_nes ?_ | refine st_add ?_ | refine st_sub ?_ | refine st_is ?_ | refine st_isnot ?_ | refine st_ix0l ?_ | refine st_ix0t ?_ | refine st_ix1l ?_ | refine st_ix1t ?_ | refine st_ix2l ?_ | refine st_ix2t ?_ | refine st_len0l ?_ | refine st_len0t ?_ | refine st_len1l ?_ | refine st_len1t ?_ | refine st_len2l ?_ | refine st_len2t ?_ | refine st_len3l ?_ | refine st_len3t ?_ | refine st_len4l ?_ | refine st_len4t ?_ | refine st_lenl ?_ | refine st_lent ?_ | refine st_abs ?_ | refine st_inti ?_ | refine st_intb ?_ | refine st_tupl ?_ | refine st_tupt ?_ | refine st_listl ?_ | refine st_listt ?_ | refine st_strs ?_ | refine st_max ?_ | refine st_min ?_ | refine st_gcd ?_ | refine st_neg ?_ | refine st_tup ?_ | refine st_lst ?_ | refine st_not ?_ | refine st_and ?_ | refine st_or ?_ | refine st_pnot ?_ | refine st_pand ?_ | refine st_por ?_ | refine st_pif ?_ | refine st_chain ?_ | refine st_isi ?_ | refine st_m1 ?_ | refine st_next ?_ | refine st_break ?_ | refine st_cont ?_ | refine st_retN ?_ | refine st_r0v ?_ | refine st_r0o ?_ | refine st_m0v ?_ | refine st_m0o ?_ | refine st_app0 ?_ | refine st_ext0 ?_ | refine st_gown0 ?_ | refine st_gext0 ?_ | refine st_d0 ?_ | refine st_p00 ?_ | refine st_p10 ?_ | refine st_p20 ?_ | refine st_w00 ?_ | refine st_w20 ?_ | refine st_r1v ?_ | refine st_r1o ?_ | refine st_m1v ?_ | refine st_m1o ?_ | refine st_app1 ?_ | refine st_ext1 ?_ | refine st_gown1 ?_ | refine st_gext1 ?_ | refine st_d1 ?_ | refine st_p01 ?_ | refine st_p11 ?_ | refine st_p21 ?_ | refine st_w01 ?_ | refine st_w21 ?_ | refine st_r2v ?_ | refine st_r2o ?_ | refine st_m2v ?_ | refine st_m2o ?_ | refine st_app2 ?_ | refine st_ext2 ?_ | refine st_gown2 ?_ | refine st_gext2 ?_ | refine st_d2 ?_ | refine st_p02 ?_ | refine st_p12 ?_ | refine st_p22 ?_ | refine st_w02 ?_ | refine st_w22 ?_ | refine st_r3v ?_ | refine st_r3o ?_ | refine st_m3v ?_ | refine st_m3o ?_ | refine st_app3 ?_ | refine st_ext3 ?_ | refine st_gown3 ?_ | refine st_gext3 ?_ | refine st_r4v ?_ | refine st_r4o ?_ | refine st_m4v ?_ | refine st_m4o ?_ | refine st_app4 ?_ | refine st_ext4 ?_ | refine st_gown4 ?_ | refine st_gext4 ?_ | refine st_r5v ?_ | refine st_r5o ?_ | refine st_m5v ?_ | refine st_m5o ?_ | refine st_app5 ?_ | refine st_ext5 ?_ | refine st_gown5 ?_ | refine st_gext5 ?_ | refine st_r6v ?_ | refine st_r6o ?_ | refine st_m6v ?_ | refine st_m6o ?_ | refine st_app6 ?_ | refine st_ext6 ?_ | refine st_gown6 ?_ | refine st_gext6 ?_ | refine st_r7v ?_ | refine st_r7o ?_ | refine st_m7v ?_ | refine st_m7o ?_ | refine st_app7 ?_ | refine st_ext7 ?_ | refine st_gown7 ?_ | refine st_gext7 ?_ | refine st_r8v ?_ | refine st_r8o ?_ | refine st_m8v ?_ | refine st_m8o ?_ | refine st_app8 ?_ | refine st_ext8 ?_ | refine st_gown8 ?_ | refine st_gext8 ?_ | refine st_r9v ?_ | refine st_r9o ?_ | refine st_m9v ?_ | refine st_m9o ?_ | refine st_app9 ?_ | refine st_ext9 ?_ | refine st_gown9 ?_ | refine st_gext9 ?_ | refine st_r10v ?_ | refine st_r10o ?_ | refine st_m10v ?_ | refine st_m10o ?_ | refine st_app10 ?_ | refine st_ext10 ?_ | refine st_gown10 ?_ | refine st_gext10 ?_ | refine st_r11v ?_ | refine st_r11o ?_ | refine st_m11v ?_ | refine st_m11o ?_ | refine st_app11 ?_ | refine st_ext11 ?_ | refine st_gown11 ?_ | refine st_gext11 ?_ | refine st_r12v ?_ | refine st_r12o ?_ | refine st_m12v ?_ | refine st_m12o ?_ | refine st_app12 ?_ | refine st_ext12 ?_ | refine st_gown12 ?_ | refine st_gext12 ?_ | refine st_r13v ?_ | refine st_r13o ?_ | refine st_m13v ?_ | refine st_m13o ?_ | refine st_app13 ?_ | refine st_ext13 ?_ | refine st_gown13 ?_ | refine st_gext13 ?_ | refine st_r14v ?_ | refine st_r14o ?_ | refine st_m14v ?_ | refine st_m14o ?_ | refine st_app14 ?_ | refine st_ext14 ?_ | refine st_gown14 ?_ | refine st_gext14 ?_ | refine st_r15v ?_ | refine st_r15o ?_ | refine st_m15v ?_ | refine st_m15o ?_ | refine st_app15 ?_ | refine st_ext15 ?_ | refine st_gown15 ?_ | refine st_gext15 ?_ | refine st_par ?_ | refine st_asg ?_ | refine st_ex ?_ | refine st_mR ?_ | refine st_mtup ?_ | refine st_mnil ?_ | refine st_mcons ?_ | refine st_for ?_ | refine st_imseq ?_ | refine st_iseq ?_ | refine st_imof ?_ | refine st_imr1 ?_ | refine st_ir1 ?_ | refine st_imr2 ?_ | refine st_enu ?_ | refine st_enl ?_ | refine st_ent ?_ | refine st_zip ?_ | refine st_zl ?_ | refine st_zt ?_ | refine st_lc ?_ | refine st_lc2 ?_ | refine st_oca ?_ | refine st_cat ?_ | refine st_excat ?_ | refine st_sll ?_ | refine st_sl ?_ | refine st_rev ?_ | refine st_nno ?_ | refine st_nat ?_ | refine st_tname ?_ | refine st_tt2 ?_ | refine st_mod (by omega) ?_ | refine st_fdv (by omega) (by omega) ?_ | refine st_mull (by omega) (by omega) ?_ | refine st_mulr (by omega) (by omega) ?_ | refine st_pow (by decide) (by decide) (by decide) ?_ | refine e_is_integer ?_ | refine e_common ?_ | refine e_is_fraction ?_ | refine e_law_common (by omega) (by omega) (by omega) (by omega) ?_) | (simp only [keepR, lfr, lf, lfs, frz, frz1, Rv.sl, Rv.d, updE, wipeE, fill_cc, fill_cn, fill_nn, dn, lfs_nL, lf_expoD, isI_dn, lfs_frD, isT_int_none, isT_int_bool, isT_int_int, isT_int_str, isT_int_list, isT_int_tuple, isT_bool_none, isT_bool_bool, isT_bool_int, isT_bool_str, isT_bool_list, isT_bool_tuple, isT_str_none, isT_str_bool, isT_str_int, isT_str_str, isT_str_list, isT_str_tuple, isT_list_none, isT_list_bool, isT_list_int, isT_list_str, isT_list_list, isT_list_tuple, isT_tuple_none, isT_tuple_bool, isT_tuple_int, isT_tuple_str, isT_tuple_list, isT_tuple_tuple, List.set_cons_zero, List.set_cons_succ, List.map_cons, List.map_nil, List.cons_append, List.nil_append, List.append_nil, Nat.reduceAdd, Nat.reduceSub, Nat.zero_add, Bool.and_true, Bool.true_and, Bool.and_self, Bool.not_true, Bool.not_false, Bool.and_false, Bool.false_and, Bool.or_false, Bool.false_or, Bool.or_true, Bool.true_or, if_true, reduceIte, isN, Bool.false_eq_true, if_false, Int.cast_ofNat_Int, Int.natCast_zero, Int.natCast_one, true_and, decide_true, decide_false, eq_self]))))
theorem lg {i : Int} {k : Nat} (hk : 0 < k) (h : i.natAbs < 2 ^ k) : i.natAbs.log2 < k := by
  by_cases z : i.natAbs = 0
  · rw [z]; exact hk
  · exact (Nat.log2_lt z).mpr h
theorem app_assoc (x y z : PySem.Str) : x ++ y ++ z = x ++ (y ++ z) := TL.ext_tl (by rw [TL.tl_append, TL.tl_append, TL.tl_append, TL.tl_append, List.append_assoc])
theorem h_law_are_strings_right : ∀ (n : Nat) (ds : List D) (Q : Nat → Rv → Prop), ds.length = 0 → f_law_are_strings_right n ds Q → p_law_are_strings_right { nx := fun n' _ => Q n' (.val .none), rt := Q } n (PL.fill ["pot", "one", "text", "odd", "value"] (.pot :: ds.map Sl.val)) := by
  rintro n ds Q hl ⟨rfl, hM, h⟩
  unfold Most at hM
  unfold p_law_are_strings_right
  trivial
  refine ⟨by omega, by omega, by unfold Most; omega, fun r n1 hr hn1 => ?_⟩
  trivial
  refine ⟨by omega, by omega, by unfold Most; omega, fun s n2 hs hn2 => ?_⟩
  trivial
  refine ⟨by omega, by omega, by omega, ?_⟩
  obtain ⟨a, b, ea, eb, _, b1, a2, b2⟩ := red_ok (A := (r : Int) - 1000) (B := 1 + (s : Int)) (by omega)
  rw [ea, eb]
  trivial
  have W : (10 : Int) ^ (40 : Int).toNat = 10000000000000000000000000000000000000000 := by decide +kernel
  rw [W]
  trivial
  refine ⟨_, .inl rfl, by simp, by show 3 ≤ 1000; decide, by unfold Most; omega, fun d hd n3 hn3 => ?_⟩
  obtain ⟨A, B, rfl, B1, B2, A2⟩ : ∃ A B : Int, d = .tuple [.int A, .int B] ∧ 1 ≤ B ∧ B < 2 ^ 170 ∧ A.natAbs < 2 ^ 170 := by
    simp only [List.mem_cons, List.not_mem_nil, or_false] at hd
    rcases hd with rfl | rfl | rfl
    · exact ⟨_, _, rfl, by omega, by omega, by omega⟩
    · exact ⟨_, _, rfl, by omega, by omega, by omega⟩
    · exact ⟨_, _, rfl, by omega, by omega, by omega⟩
  trivial
  refine ⟨by omega, by omega, by omega, ?_⟩
  obtain ⟨p, q, ep, eq, co, q1, p2, q2⟩ := red_ok (A := A) (B := B) B1
  rw [ep, eq]
  have lp : p.natAbs.log2 < 170 := lg (by decide) (by omega)
  have lq : q.natAbs.log2 < 170 := lg (by decide) (by omega)
  have tp := ts_len (i := p) (by omega)
  have tq := ts_len (i := q) (by omega)
  clear ep eq hd ea eb
  trivial
  refine ⟨by omega, ?_⟩
  trivial
  have bp : p.natAbs < 10 ^ 300 := Nat.lt_of_lt_of_le (by omega : p.natAbs < 2 ^ 170) (by decide +kernel)
  have bq : q.natAbs < 10 ^ 300 := Nat.lt_of_lt_of_le (by omega : q.natAbs < 2 ^ 170) (by decide +kernel)
  have fr : isFr (.tuple [.int p, .int q]) = true := by
    show (decide (1 ≤ q) && decide (Nat.gcd p.natAbs q.natAbs = 1)) = true
    rw [decide_eq_true q1, decide_eq_true co]; rfl
  have fin2 : ∀ m, m ≤ n + 100 → Q m (.val (.bool true)) := h
  by_cases c : 1 < q
  case' pos =>
    rw [decide_eq_true c]
    trivial
    refine ⟨by omega, ?_⟩
    trivial
    refine ⟨line_le (by show 1 + (tsI q).length ≤ _; omega), ?_⟩
    have l1 : ((("/" : PySem.Str)) ++ tsI q).length = 1 + (tsI q).length := by rw [TL.len_tl, TL.tl_append, List.length_append, ← TL.len_tl, ← TL.len_tl]; rfl
    refine ⟨line_le (by show (tsI p).length + ((("/" : PySem.Str)) ++ tsI q).length ≤ _; omega), ?_⟩
    have H1 : tsI p ++ ((("/" : PySem.Str)) ++ tsI q) = (if q = 1 then tsI p else tsI p ++ S "/" ++ tsI q) := by
      rw [if_neg (by omega), app_assoc]; rfl
    have H2 : rF (tsI p ++ ((("/" : PySem.Str)) ++ tsI q)) = .tuple [.int p, .int q] := by
      rw [show tsI p ++ ((("/" : PySem.Str)) ++ tsI q) = tsI p ++ S "/" ++ tsI q from (app_assoc _ _ _).symm]
      unfold rF
      rw [split_two, show [tsI p, tsI q].map rI = [rI (tsI p), rI (tsI q)] from rfl, rI_ts bp, rI_ts bq]
      show (if (decide (1 < q) && isFr (.tuple [.int p, .int q])) = true then PyData.tuple [.int p, .int q] else .none) = _
      rw [decide_eq_true c, fr]; rfl
    have H3 : (tsI p ++ ((("/" : PySem.Str)) ++ tsI q)).length ≤ 9000 := by
      rw [TL.len_tl, TL.tl_append, List.length_append, ← TL.len_tl, ← TL.len_tl, l1]; omega
    change sSeq _ _ _ _ _
    generalize hT : PySem.Str.ofString (toString p) ++ ((("/" : PySem.Str)) ++ PySem.Str.ofString (toString q)) = T at *
    rw [show tsI p ++ ((("/" : PySem.Str)) ++ tsI q) = T from hT] at H1 H2 H3
    clear hT l1
  case' neg =>
    rw [decide_eq_false c]
    trivial
    have eq1 : q = 1 := by omega
    refine ⟨line_le (by show (tsI p).length + 0 ≤ _; omega), ?_⟩
    have H1 : tsI p ++ (("" : PySem.Str)) = (if q = 1 then tsI p else tsI p ++ S "/" ++ tsI q) := by
      rw [if_pos eq1, str_nil]
    have H2 : rF (tsI p ++ (("" : PySem.Str))) = .tuple [.int p, .int q] := by
      rw [str_nil]
      unfold rF
      rw [split_one, show [tsI p].map rI = [rI (tsI p)] from rfl, rI_ts bp, eq1]
    have H3 : (tsI p ++ (("" : PySem.Str))).length ≤ 9000 := by rw [str_nil]; omega
    change sSeq _ _ _ _ _
    generalize hT : PySem.Str.ofString (toString p) ++ (("" : PySem.Str)) = T at *
    rw [show tsI p ++ (("" : PySem.Str)) = T from hT] at H1 H2 H3
    clear hT
  all_goals
    trivial
    refine ⟨by omega, by omega, ?_⟩
    trivial
    rw [decide_eq_true H1.symm]
    trivial
    refine ⟨H3, ?_⟩
    rw [H2]
    trivial
    refine ⟨shaped_tuple fun d hd => ?_, shaped_tuple fun d hd => ?_, ?_⟩
    · simp only [List.mem_cons, List.not_mem_nil, or_false] at hd
      rcases hd with rfl | rfl <;> rfl
    · simp only [List.mem_cons, List.not_mem_nil, or_false] at hd
      rcases hd with rfl | rfl <;> rfl
    rw [show PyData.eqv (.tuple [.int p, .int q]) (.tuple [.int p, .int q]) = true by simp [PyData.eqv, PyData.eqvAll]]
    trivial
    refine ⟨301, rfl, by decide, by decide, by decide, by decide +kernel, ?_⟩
    trivial
    refine ⟨301, rfl, by decide, by decide, by decide, by decide +kernel, ?_⟩
    trivial
    refine ⟨by decide +kernel, ?_⟩
    trivial
    refine ⟨line_le (by show 16 + 7 ≤ 100000; decide), ?_⟩
    trivial
    refine ⟨line_le (by show 23 + 4 ≤ 100000; decide), ?_⟩
    trivial
    refine ⟨_, .inl rfl, by simp, by show 27 ≤ 1000; decide, by unfold Most; omega, fun d hd n4 hn4 => ?_⟩
    have hd' : d ∈ oddL := hd
    clear hd
    have lfd : lf d = true := List.all_eq_true.mp (show oddL.all lf = true by rfl) d hd'
    trivial
    simp only [lfd, if_true]
    trivial
    refine odd_ok ?_ d hd'
    trivial
    refine ⟨300, rfl, by decide, by decide, by decide, by decide +kernel, ?_⟩
    trivial
    obtain ⟨m, hm1, hm2⟩ := ones_ok
    refine ⟨by decide +kernel, ?_⟩
    rw [hm2]
    trivial
    refine ⟨300, rfl, by decide, by decide, by decide, by decide +kernel, ?_⟩
    trivial
    refine ⟨m, hm1, by decide +kernel, ?_⟩
    trivial
    refine ⟨shaped_tuple fun d hd => ?_, shaped_tuple fun d hd => ?_, ?_⟩
    · simp only [List.mem_cons, List.not_mem_nil, or_false] at hd
      rcases hd with rfl | rfl <;> rfl
    · simp only [List.mem_cons, List.not_mem_nil, or_false] at hd
      rcases hd with rfl | rfl <;> rfl
    rw [show PyData.eqv (.tuple [.int m, .int 1]) (.tuple [.int m, .int 1]) = true by simp [PyData.eqv, PyData.eqvAll]]
    exact fin2 n4 (by omega)
end K20

set_option Elab.async false
set_option linter.all false
set_option maxRecDepth 100000
set_option maxHeartbeats 4000000
namespace K20
open PySem PySem.Spec PyProof.Rows L2 PL
open Classical
local macro_rules | `(tactic| trivial) => `(tactic| (repeat (first | (with_reducible first | refine st_bin ?_ | refine st_v0v ?_ | refine st_v0o ?_ | refine st_v1v ?_ | refine st_v1o ?_ | refine st_v2v ?_ | refine st_v2o ?_ | refine st_v3v ?_ | refine st_v3o ?_ | refine st_v4v ?_ | refine st_v4o ?_ | refine st_v5v ?_ | refine st_v5o ?_ | refine st_v6v ?_ | refine st_v6o ?_ | refine st_v7v ?_ | refine st_v7o ?_ | refine st_v8v ?_ | refine st_v8o ?_ | refine st_v9v ?_ | refine st_v9o ?_ | refine st_v10v ?_ | refine st_v10o ?_ | refine st_v11v ?_ | refine st_v11o ?_ | refine st_v12v ?_ | refine st_v12o ?_ | refine st_v13v ?_ | refine st_v13o ?_ | refine st_v14v ?_ | refine st_v14o ?_ | refine st_v15v ?_ | refine st_v15o ?_ | refine st_C ?_ | refine st_cons ?_ | refine st_nil ?_ | refine st_ca ?_ | refine st_bval ?_ | refine st_exb ?_ | refine st_exi ?_ | refine st_exs ?_ | refine st_exl ?_ | refine st_exil ?_ | refine st_exit ?_ | refine st_exiz ?_ | refine st_seq ?_ | refine st_iT ?_ | refine st_iF ?_ | refine st_k0 ?_ | refine st_k1 ?_ | refine st_k2 ?_ | refine st_k3 ?_ | refine st_z0 ?_ | refine st_z1 ?_ | refine st_z2 ?_ | refine st_z3 ?_ | refine st_z4 ?_ | refine st_z5 ?_ | refine st_z6 ?_ | refine st_z7 ?_ | refine st_z8 ?_ | refine st_z9 ?_ | refine st_z10 ?_ | refine st_z11 ?_ | refine st_z12 ?_ | refine st_z13 ?_ | refine st_z14 ?_ | refine st_z15 ?_ | refine st_z16 ?_ | refine st_z17 ?_ | refine st_z18 ?_ | refine st_z19 ?_ | refine st_z20 ?_ | refine st_z21 ?_ | refine st_z22 ?_ | refine st_z23 ?_ | refine st_z24 ?_ | refine st_ret ?_ | refine st_rV ?_ | refine st_rO ?_ | refine st_vR ?_ | refine st_call ?_ | refine st_set ?_ | refine st_if ?_ | refine st_lt ?_ | refine st_le ?_ | refine st_gt ?_ | refine st_ge ?_ | refine st_eqi ?_ | refine st_nei ?_ | refine st_eqs ?_ | refine st_nes ?_ | refine st_add ?_ | refine st_sub ?_ | refine st_is ?_ | refine st_isnot ?_ | refine st_ix0l ?_ | refine st_ix0t ?_ | refine st_ix1l ?_ | refine st_ix1t ?_ | refine st_ix2l ?_ | refine st_ix2t ?_ | refine st_len0l ?_ | refine st_len0t ?_ | refine st_len1l ?_ | refine st_len1t ?_ | refine st_len2l ?_ | refine st_len2t ?_ | refine st_len3l ?_ | refine st_len3t ?_ | refine st_len4l ?_ | refine st_len4t ?_ | refine st_lenl ?_ | refine st_lent ?_ | refine st_abs ?_ | refine st_inti ?_ | refine st_intb ?_ | refine st_tupl ?_ | refine st_tupt ?_ | refine st_listl ?_ | refine st_listt ?_ | refine st_strs ?_ | refine st_max ?_ | refine st_min ?_ | refine st_gcd ?_ | refine st_neg ?_ | refine st_tup ?_ | refine st_lst ?_ | refine st_not ?_ | refine st_and ?_ | refine st_or ?_ | refine st_pnot ?_ | refine st_pand ?_ | refine st_por ?_ | refine st_pif ?_ | refine st_chain ?_ | refine st_isi ?_ | refine st_m1 ?_ | refine st_next ?_ | refine st_break ?_ | refine st_cont ?_ | refine st_retN ?_ | refine st_r0v ?_ | refine st_r0o ?_ | refine st_m0v ?_ | refine st_m0o ?_ | refine st_app0 ?_ | refine st_ext0 ?_ | refine st_gown0 ?_ | refine st_gext0 ?_ | refine st_d0 ?_ | refine st_p00 ?_ | refine st_p10 ?_ | refine st_p20 ?_ | refine st_w00 ?_ | refine st_w20 ?_ | refine st_r1v ?_ | refine st_r1o ?_ | refine st_m1v ?_ | refine st_m1o ?_ | refine st_app1 ?_ | refine st_ext1 ?_ | refine st_gown1 ?_ | refine st_gext1 ?_ | refine st_d1 ?_ | refine st_p01 ?_ | refine st_p11 ?_ | refine st_p21 ?_ | refine st_w01 ?_ | refine st_w21 ?_ | refine st_r2v ?_ | refine st_r2o ?_ | refine st_m2v ?_ | refine st_m2o ?_ | refine st_app2 ?_ | refine st_ext2 ?_ | refine st_gown2 ?_ | refine st_gext2 ?_ | refine st_d2 ?_ | refine st_p02 ?_ | refine st_p12 ?_ | refine st_p22 ?_ | refine st_w02 ?_ | refine st_w22 ?_ | refine st_r3v ?_ | refine st_r3o ?_ | refine st_m3v ?_ | refine st_m3o ?_ | refine st_app3 ?_ | refine st_ext3 ?_ | refine st_gown3 ?_ | refine st_gext3 ?_ | refine st_r4v ?_ | refine st_r4o ?_ | refine st_m4v ?_ | refine st_m4o ?_ | refine st_app4 ?_ | refine st_ext4 ?_ | refine st_gown4 ?_ | refine st_gext4 ?_ | refine st_r5v ?_ | refine st_r5o ?_ | refine st_m5v ?_ | refine st_m5o ?_ | refine st_app5 ?_ | refine st_ext5 ?_ | refine st_gown5 ?_ | refine st_gext5 ?_ | refine st_r6v ?_ | refine st_r6o ?_ | refine st_m6v ?_ | refine st_m6o ?_ | refine st_app6 ?_ | refine st_ext6 ?_ | refine st_gown6 ?_ | refine st_gext6 ?_ | refine st_r7v ?_ | refine st_r7o ?_ | refine st_m7v ?_ | refine st_m7o ?_ | refine st_app7 ?_ | refine st_ext7 ?_ | refine st_gown7 ?_ | refine st_gext7 ?_ | refine st_r8v ?_ | refine st_r8o ?_ | refine st_m8v ?_ | refine st_m8o ?_ | refine st_app8 ?_ | refine st_ext8 ?_ | refine st_gown8 ?_ | refine st_gext8 ?_ | refine st_r9v ?_ | refine st_r9o ?_ | refine st_m9v ?_ | refine st_m9o ?_ | refine st_app9 ?_ | refine st_ext9 ?_ | refine st_gown9 ?_ | refine st_gext9 ?_ | refine st_r10v ?_ | refine st_r10o ?_ | refine st_m10v ?_ | refine st_m10o ?_ | refine st_app10 ?_ | refine st_ext10 ?_ | refine st_gown10 ?_ | refine st_gext10 ?_ | refine st_r11v ?_ | refine st_r11o ?_ | refine st_m11v ?_ | refine st_m11o ?_ | refine st_app11 ?_ | refine st_ext11 ?_ | refine st_gown11 ?_ | refine st_gext11 ?_ | refine st_r12v ?_ | refine st_r12o ?_ | refine st_m12v ?_ | refine st_m12o ?_ | refine st_app12 ?_ | refine st_ext12 ?_ | refine st_gown12 ?_ | refine st_gext12 ?_ | refine st_r13v ?_ | refine st_r13o ?_ | refine st_m13v ?_ | refine st_m13o ?_ | refine st_app13 ?_ | refine st_ext13 ?_ | refine st_gown13 ?_ | refine st_gext13 ?_ | refine st_r14v ?_ | refine st_r14o ?_ | refine st_m14v ?_ | refine st_m14o ?_ | refine st_app14 ?_ | refine st_ext14 ?_ | refine st_gown14 ?_ | refine st_gext14 ?_ | refine st_r15v ?_ | refine st_r15o ?_ | refine st_m15v ?_ | refine st_m15o ?_ | refine st_app15 ?_ | refine st_ext15 ?_ | refine st_gown15 ?_ | refine st_gext15 ?_ | refine st_par ?_ | refine st_asg ?_ | refine st_ex ?_ | refine st_mR ?_ | refine st_mtup ?_ | refine st_mnil ?_ | refine st_mcons ?_ | refine st_for ?_ | refine st_imseq ?_ | refine st_iseq ?_ | refine st_imof ?_ | refine st_imr1 ?_ | refine st_ir1 ?_ | refine st_imr2 ?_ | refine st_enu ?_ | refine st_enl ?_ | refine st_ent ?_ | refine st_zip ?_ | refine st_zl ?_ | refine st_zt ?_ | refine st_lc ?_ | refine st_lc2 ?_ | refine st_oca ?_ | refine st_cat ?_ | refine st_excat ?_ | refine st_sll ?_ | refine st_sl ?_ | refine st_rev ?_ | refine st_nno ?_ | refine st_nat ?_ | refine st_tname ?_ | refine st_tt2 ?_ | refine st_mod (by omega) ?_ | refine st_fdv (by omega) (by omega) ?_ | refine st_mull (by omega) (by omega) ?_ | refine st_mulr (by omega) (by omega) ?_ | refine st_pow (by decide) (by decide) (by decide) ?_ | refine e_is_integer ?_ | refine e_common ?_ | refine e_is_fraction ?_ | refine e_law_common (by omega) (by omega) (by omega) (by omega) ?_) | (simp only [keepR, lfr, lf, lfs, frz, frz1, Rv.sl, Rv.d, updE, wipeE, fill_cc, fill_cn, fill_nn, dn, lfs_nL, lf_expoD, isI_dn, lfs_frD, isT_int_none, isT_int_bool, isT_int_int, isT_int_str, isT_int_list, isT_int_tuple, isT_bool_none, isT_bool_bool, isT_bool_int, isT_bool_str, isT_bool_list, isT_bool_tuple, isT_str_none, isT_str_bool, isT_str_int, isT_str_str, isT_str_list, isT_str_tuple, isT_list_none, isT_list_bool, isT_list_int, isT_list_str, isT_list_list, isT_list_tuple, isT_tuple_none, isT_tuple_bool, isT_tuple_int, isT_tuple_str, isT_tuple_list, isT_tuple_tuple, List.set_cons_zero, List.set_cons_succ, List.map_cons, List.map_nil, List.cons_append, List.nil_append, List.append_nil, Nat.reduceAdd, Nat.reduceSub, Nat.zero_add, Bool.and_true, Bool.true_and, Bool.and_self, Bool.not_true, Bool.not_false, Bool.and_false, Bool.false_and, Bool.or_false, Bool.false_or, Bool.or_true, Bool.true_or, if_true, reduceIte, isN, Bool.false_eq_true, if_false, Int.cast_ofNat_Int, Int.natCast_zero, Int.natCast_one, true_and, decide_true, decide_false, eq_self]))))
def listG : D → D
  | .tuple xs => .list xs
  | d => d
def prD (p : Nat × Nat) : List D := [dn p.1, dn p.2]
theorem parts_lists : ∀ ps : List (Nat × Nat), (ps.map frD).map listG = (ps.map prD).map PyData.list
  | [] => rfl
  | p :: ps => by
    rw [List.map_cons, List.map_cons, parts_lists ps]
    rfl
theorem parts_flat : ∀ ps : List (Nat × Nat), (ps.map prD).flatten = nL (partsOf ps)
  | [] => rfl
  | p :: ps => by
    rw [List.map_cons, List.flatten_cons, parts_flat ps]
    unfold partsOf
    rw [List.flatMap_cons, nL_app]
    rfl
theorem parts_len (l : List (Nat × Nat)) : (partsOf l).length = 2 * l.length := by
  induction l with
  | nil => rfl
  | cons p l ih =>
    unfold partsOf at ih ⊢
    rw [List.flatMap_cons, List.length_append, ih]
    show 2 + _ = 2 * (l.length + 1)
    omega
theorem parts_mem {ps : List (Nat × Nat)} {n : Nat} (h : n ∈ partsOf ps) : ∃ p ∈ ps, n = p.1 ∨ n = p.2 := by
  unfold partsOf at h
  obtain ⟨p, hp, hx⟩ := List.mem_flatMap.mp h
  simp only [List.mem_cons, List.not_mem_nil, or_false] at hx
  exact ⟨p, hp, hx⟩
theorem mem_parts {ps : List (Nat × Nat)} {p : Nat × Nat} (h : p ∈ ps) : p.1 ∈ partsOf ps ∧ p.2 ∈ partsOf ps := by
  unfold partsOf
  exact ⟨List.mem_flatMap.mpr ⟨p, h, by simp⟩, List.mem_flatMap.mpr ⟨p, h, by simp⟩⟩
theorem nL_ints (B : List Nat) : nL B = (B.map fun (n : Nat) => (n : Int)).map PyData.int := by unfold nL; rw [List.map_map]; rfl
theorem eqv_tup (xs ys : List Int) : PyData.eqv (.tuple (xs.map PyData.int)) (.tuple (ys.map PyData.int)) = decide (xs = ys) := by
  simp only [PyData.eqv]
  exact eqvAll_ints xs ys
theorem eqv_tupN (xs : List Nat) : PyData.eqv (.tuple (nL xs)) (.tuple (nL xs)) = true := by
  rw [nL_ints, eqv_tup]
  exact decide_eq_true rfl
theorem cut_drop {α : Type} (xs : List α) (k : Nat) : cut xs (some (k : Int)) none = xs.drop k := by
  unfold cut
  rw [HT.sIx_nat, HT.sIx_none]
  rcases Nat.le_total k xs.length with h | h
  · rw [Nat.min_eq_left h]
    exact List.take_of_length_le (by rw [List.length_drop]; exact Nat.le_refl _)
  · rw [Nat.min_eq_right h, Nat.sub_self, List.take_zero, List.drop_eq_nil_of_le h]
theorem cut_take {α : Type} (xs : List α) (k : Nat) : cut xs none (some (k : Int)) = xs.take k := by
  unfold cut
  rw [HT.sIx_nat, HT.sIx_none, List.drop_zero, Nat.sub_zero]
  rcases Nat.le_total k xs.length with h | h
  · rw [Nat.min_eq_left h]
  · rw [Nat.min_eq_right h, List.take_length, List.take_of_length_le h]
theorem nL_drop (B : List Nat) (k : Nat) : (nL B).drop k = nL (B.drop k) := by unfold nL; rw [List.map_drop]
theorem nL_take (B : List Nat) (k : Nat) : (nL B).take k = nL (B.take k) := by unfold nL; rw [List.map_take]
theorem any_false (l : List D) : (l.any fun _ => false) = false := by induction l <;> simp_all
theorem sl_take {B : List Nat} {m : Nat} {Q : D → Prop} (h : Q (.tuple (nL (B.take m)))) : oSl (.tuple (nL B)) none (some (m : Int)) Q := by
  show Q (.tuple (cut (nL B) none (some (m : Int))))
  rw [cut_take, nL_take]
  exact h
theorem sl_drop {B : List Nat} {m : Nat} {Q : D → Prop} (h : Q (.tuple (nL (B.drop (m + 1))))) : oSl (.tuple (nL B)) (some ((m : Int) + 1)) none Q := by
  show Q (.tuple (cut (nL B) (some ((m : Int) + 1)) none))
  rw [show (m : Int) + 1 = ((m + 1 : Nat) : Int) by omega, cut_drop, nL_drop]
  exact h
def rest (B : List Nat) (m : Nat) : List Nat := B.take m ++ B.drop (m + 1)
theorem rest_sub (B : List Nat) (m : Nat) : (rest B m).Sublist B := by
  unfold rest
  rw [← List.eraseIdx_eq_take_drop_succ]
  exact List.eraseIdx_sublist _ _
theorem rest_need {ps : List (Nat × Nat)} {B : List Nat} {m : Nat} (hB : IsB (partsOf ps) B) (hm : m < B.length) (fr : ∀ p ∈ ps, Fr p) : (ps.any fun p => isN (overD (rest B m) p)) = true := by
  refine Classical.byContradiction fun q => ?_
  have cb : CB (rest B m) := hB.cb.sublist (rest_sub B m)
  have all_ : ∀ n ∈ partsOf ps, Gn (rest B m) n := fun n hn => by
    obtain ⟨p, hp, e⟩ := parts_mem hn
    have no : isN (overD (rest B m) p) = false := Bool.eq_false_iff.mpr fun z => q (List.any_eq_true.mpr ⟨p, hp, z⟩)
    have yes : (splitAll (rest B m) p.1).2 = 1 ∧ (splitAll (rest B m) p.2).2 = 1 := by
      refine Classical.byContradiction fun z => ?_
      unfold overD at no
      rw [if_neg z] at no
      cases no
    rcases e with rfl | rfl
    · exact (splitAll_iff cb (fr p hp).a1).mp yes.1
    · exact (splitAll_iff cb (fr p hp).b1).mp yes.2
  have g := hB.least _ cb all_ B[m] (List.getElem_mem hm)
  have eB : B = B.take m ++ B[m] :: B.drop (m + 1) := by rw [← List.drop_eq_getElem_cons hm, List.take_append_drop]
  have pw := hB.cb.cop
  rw [eB] at pw
  obtain ⟨_, pw2, pw3⟩ := List.pairwise_append.mp pw
  refine CB.need hB.cb (hB.cb.two _ (List.getElem_mem hm)) (fun b hb => ?_) cb g
  unfold rest at hb
  rcases List.mem_append.mp hb with e | e
  · rw [Nat.gcd_comm]; exact pw3 b e _ List.mem_cons_self
  · exact (List.pairwise_cons.mp pw2).1 b e
theorem perm_frD {ys : List D} {ps : List (Nat × Nat)} (h : ys.Perm (ps.map frD)) : ∃ qs : List (Nat × Nat), ys = qs.map frD ∧ ∀ x, x ∈ qs ↔ x ∈ ps := by
  have inj : ∀ p q : Nat × Nat, frD p = frD q → p = q := fun p q e => by
    unfold frD dn at e
    injection e with e
    injection e with e1 e2
    injection e2 with e2 _
    injection e1 with e1
    injection e2 with e2
    exact Prod.ext (by omega) (by omega)
  have key : ∀ ys : List D, (∀ y ∈ ys, ∃ p, y = frD p) → ∃ qs : List (Nat × Nat), ys = qs.map frD := by
    intro ys
    induction ys with
    | nil => intro _; exact ⟨[], rfl⟩
    | cons y ys ih =>
      intro hy
      obtain ⟨p, rfl⟩ := hy y List.mem_cons_self
      obtain ⟨qs, rfl⟩ := ih fun z hz => hy z (List.mem_cons_of_mem _ hz)
      exact ⟨p :: qs, rfl⟩
  obtain ⟨qs, rfl⟩ := key ys fun y hy => by
    obtain ⟨p, _, rfl⟩ := List.mem_map.mp (h.subset hy)
    exact ⟨p, rfl⟩
  refine ⟨qs, rfl, fun x => ⟨fun hx => ?_, fun hx => ?_⟩⟩
  · obtain ⟨p, hp, e⟩ := List.mem_map.mp (h.subset (List.mem_map.mpr ⟨x, hx, rfl⟩))
    rw [← inj _ _ e]; exact hp
  · obtain ⟨p, hp, e⟩ := List.mem_map.mp (h.symm.subset (List.mem_map.mpr ⟨x, hx, rfl⟩))
    rw [← inj _ _ e]; exact hp
theorem h_law_right : ∀ (n : Nat) (ds : List D) (Q : Nat → Rv → Prop), ds.length = 0 → f_law_right n ds Q → p_law_right { nx := fun n' _ => Q n' (.val .none), rt := Q } n (PL.fill ["pot", "some", "parts", "told", "due", "at", "one", "number", "top", "low", "rest", "part", "other", "more", "less"] (.pot :: ds.map Sl.val)) := by
  rintro n ds Q hl ⟨rfl, hM, h⟩
  unfold Most at hM
  unfold p_law_right
  trivial
  refine ⟨rfl, by unfold Most; omega, fun ps n1 hps hlen hn1 => ?_⟩
  trivial
  refine comp_all listG (fun d hd => ?_) (line_le (by rw [List.length_map]; omega)) ?_
  · obtain ⟨p, hp, rfl⟩ := List.mem_map.mp hd
    refine ⟨_, rfl, fun R hR => ?_⟩
    unfold frD
    trivial
    exact hR
  rw [parts_lists]
  trivial
  refine ⟨ps.map prD, rfl, line_le (by rw [parts_flat, nL_len, parts_len]; omega), ?_⟩
  rw [parts_flat]
  trivial
  have fr : ∀ p ∈ ps, Fr p := fun p hp => (hps p hp).1
  have pb : ∀ n ∈ partsOf ps, 1 ≤ n ∧ n < 2 ^ 17 := fun n hn => by
    obtain ⟨p, hp, e⟩ := parts_mem hn
    obtain ⟨f, g1, g2⟩ := hps p hp
    rcases e with rfl | rfl
    · exact ⟨f.a1, g1⟩
    · exact ⟨f.b1, g2⟩
  have pl : (partsOf ps).length ≤ 14 := by rw [parts_len]; omega
  refine ⟨ps, rfl, fr, by omega, fun B hB => ?_⟩
  trivial
  refine ⟨partsOf ps, rfl, pb, pl, fun B' hB' => ?_⟩
  have eB : B = B' := hB.uniq hB' fun _ => Iff.rfl
  subst eB
  obtain ⟨bl, bs⟩ := hB.small pb pl
  trivial
  obtain ⟨r1, r2, r3⟩ := show_ok (l := B.map fun (n : Nat) => (n : Int)) (by rw [List.length_map]; omega) (fun i hi => by
    obtain ⟨b, hb, rfl⟩ := List.mem_map.mp hi
    have := bs b hb
    omega)
  rw [← nL_ints] at r1 r2 r3
  refine ⟨r1, r2, r3, ?_⟩
  trivial
  refine ⟨r1, r2, r3, ?_⟩
  trivial
  refine ⟨ps.map frD, by rw [List.length_map]; rfl, by rw [List.length_map]; omega, lfs_frD ps, by unfold Most; rw [List.length_map]; omega, fun ys n2 hys hn2 => ?_⟩
  rw [List.length_map] at hn2
  obtain ⟨qs, rfl, hqs⟩ := perm_frD hys
  trivial
  have ql : qs.length = ps.length := by
    have := hys.length_eq
    rwa [List.length_map, List.length_map] at this
  refine ⟨qs, rfl, fun p hp => fr p ((hqs p).mp hp), by omega, fun B' hB' => ?_⟩
  have eB : B = B' := hB.uniq hB' fun x => by
    constructor
    · intro hx
      obtain ⟨p, hp, e⟩ := parts_mem hx
      rcases e with rfl | rfl
      · exact (mem_parts ((hqs p).mpr hp)).1
      · exact (mem_parts ((hqs p).mpr hp)).2
    · intro hx
      obtain ⟨p, hp, e⟩ := parts_mem hx
      rcases e with rfl | rfl
      · exact (mem_parts ((hqs p).mp hp)).1
      · exact (mem_parts ((hqs p).mp hp)).2
  subst eB
  trivial
  refine ⟨shaped_tuple fun d hd => flat_nL hd, shaped_tuple fun d hd => flat_nL hd, ?_⟩
  rw [eqv_tupN]
  trivial
  have b2 : ∀ b ∈ B, 2 ≤ b ∧ b < 2 ^ 20 := fun b hb => ⟨hB.cb.two b hb, by have := bs b hb; omega⟩
  have pairs_cop : ∀ (l : List Nat), l.Sublist B → ∀ (i : Nat) (d : D), (nL l)[i]? = some d → True := fun _ _ _ _ _ => True.intro
  -- coprime in pairs
  refine forL_go (fun r k e => k = n2 ∧ (∃ s5 s6, e = [.pot, .val (.list (ps.map frD)), .val (.list (nL (partsOf ps))), .val (.tuple (nL B)), .val (.tuple (nL B)), s5, s6, .un, .un, .un, .un, .un, .un, .un, .un]) ∧ ∃ m : Nat, r = pairsFrom m (nL (B.drop m))) ?_ ?_ _ _ _ ⟨rfl, ⟨_, _, rfl⟩, 0, rfl⟩
  · rintro d r k e NN hN ⟨rfl, ⟨s5, s6, rfl⟩, m, hr⟩
    obtain ⟨one, B', eB, ed, er⟩ : ∃ (one : Nat) (B' : List Nat), B.drop m = one :: B' ∧ d = .tuple [.int (m : Nat), dn one] ∧ r = pairsFrom (m + 1) (nL B') := by
      cases eD : B.drop m with
      | nil => rw [eD] at hr; cases hr
      | cons one B' =>
        rw [eD] at hr
        have hr' : d :: r = .tuple [.int (m : Nat), dn one] :: pairsFrom (m + 1) (nL B') := hr
        injection hr' with h1 h2
        exact ⟨one, B', rfl, h1, h2⟩
    subst ed er
    have eB' : B' = B.drop (m + 1) := by
      have := congrArg List.tail eB
      rw [List.tail_drop] at this
      exact this.symm
    have mem1 : one ∈ B := List.mem_of_mem_drop (by rw [eB]; exact List.mem_cons_self)
    refine ⟨_, rfl, ?_⟩
    trivial
    show ∃ ds, items (.tuple (cut (nL B) (some ((m : Int) + 1)) none)) = some ds ∧ _
    rw [show (m : Int) + 1 = ((m + 1 : Nat) : Int) by omega, cut_drop, nL_drop]
    trivial
    have o2 := b2 one mem1
    refine comp_all (fun _ => .bool false) (fun d hd => ?_) (line_le (by rw [nL_len, List.length_drop]; omega)) ?_
    · obtain ⟨x, hx, rfl⟩ := mem_nL hd
      have xm : x ∈ B := List.mem_of_mem_drop hx
      have x2 := b2 x xm
      refine ⟨_, rfl, fun R hR => ?_⟩
      trivial
      have co : Nat.gcd ((one : Int)).natAbs ((x : Int)).natAbs = 1 := by
        show Nat.gcd one x = 1
        have sub : (B.drop m).Pairwise fun a c => Nat.gcd a c = 1 := hB.cb.cop.sublist (List.drop_sublist _ _)
        rw [eB] at sub
        exact (List.pairwise_cons.mp sub).1 x (by rw [eB']; exact hx)
      rw [co]
      trivial
      exact hR
    · trivial
      refine oAny_map (f := fun _ => false) ?_
      rw [any_false]
      trivial
      exact hN _ _ ⟨rfl, ⟨_, _, rfl⟩, m + 1, by rw [eB']⟩
  · rintro k e ⟨rfl, ⟨s5, s6, rfl⟩, _⟩
    trivial
    refine comp_all (fun _ => .bool false) (fun d hd => ?_) (line_le (by rw [nL_len, parts_len]; omega)) ?_
    · obtain ⟨x, hx, rfl⟩ := mem_nL hd
      have x2 := pb x hx
      refine ⟨_, rfl, fun R hR => ?_⟩
      trivial
      refine ⟨B, x, rfl, x2.1, by omega, b2, by omega, ?_⟩
      have yes : (splitAll B x).2 = 1 := (splitAll_iff hB.cb x2.1).mpr (hB.gen x hx)
      unfold expoL
      rw [if_pos yes]
      trivial
      exact hR
    trivial
    refine oAny_map (f := fun _ => false) ?_
    rw [any_false]
    trivial
    refine ⟨line_le (by rw [List.length_map]; show ps.length + 3 ≤ _; omega), ?_⟩
    trivial
    refine ⟨_, .inl rfl, by simp, by rw [List.length_append, List.length_map]; show ps.length + 3 ≤ _; omega, by unfold Most; omega, fun d hd n3 hn3 => ?_⟩
    obtain ⟨num, rfl, fn⟩ : ∃ p : Nat × Nat, d = .tuple [.int p.1, .int p.2] ∧ Fr p := by
      rcases List.mem_append.mp hd with e | e
      · obtain ⟨p, hp, rfl⟩ := List.mem_map.mp e
        exact ⟨p, rfl, fr p hp⟩
      · simp only [List.mem_cons, List.not_mem_nil, or_false] at e
        rcases e with rfl | rfl | rfl
        · exact ⟨(1, 1), rfl, by decide, by decide, by decide, by decide, by decide⟩
        · exact ⟨(11, 1), rfl, by decide, by decide, by decide, by decide, by decide⟩
        · exact ⟨(1, 22), rfl, by decide, by decide, by decide, by decide, by decide⟩
    trivial
    refine ⟨B, num.1, rfl, fn.a1, fn.a2, b2, by omega, ?_⟩
    trivial
    refine ⟨B, num.2, rfl, fn.b1, fn.b2, b2, by omega, ?_⟩
    obtain ⟨x1, x2, x3, x4⟩ := over_ok (fun b hb => (b2 b hb).1) (by omega : B.length ≤ 1000) fn
    rcases Classical.em ((splitAll B num.1).2 = 1) with h1 | h1 <;> rcases Classical.em ((splitAll B num.2).2 = 1) with h2 | h2
    case' inl.inl =>
      have eX : overD B num = .tuple (diffs (splitAll B num.1).1 (splitAll B num.2).1) := if_pos ⟨h1, h2⟩
      unfold expoL
      rw [if_pos h1, if_pos h2]
      trivial
      refine ⟨shaped_none, (shaped_ll _ _).1, ?_⟩
      rw [show ([PyData.list (nL (splitAll B num.1).1), .list (nL (splitAll B num.2).1)].any fun z => PyData.eqv z .none) = false by simp [PyData.eqv]]
      trivial
      refine comp_all subG (fun d hd => ?_) (line_le (by rw [zipD_len, nL_len, nL_len, splitAll_len, splitAll_len]; omega)) ?_
      · obtain ⟨x, y, rfl⟩ := zip_mem hd
        refine ⟨_, rfl, fun R hR => ?_⟩
        trivial
        exact hR
      rw [zip_nL]
      trivial
      have lfd : lfs (diffs (splitAll B num.1).1 (splitAll B num.2).1) = true := by rw [diffs_is]; exact lfs_ints _
      simp only [lfd, if_true]
      trivial
    case' inl.inr =>
      have eX : overD B num = .none := if_neg fun z => h2 z.2
      unfold expoL
      rw [if_pos h1, if_neg h2]
      trivial
      refine ⟨shaped_none, (shaped_ll _ []).2.1, ?_⟩
      rw [show ([PyData.list (nL (splitAll B num.1).1), .none].any fun z => PyData.eqv z .none) = true by simp [PyData.eqv]]
      trivial
    case' inr.inl =>
      have eX : overD B num = .none := if_neg fun z => h1 z.1
      unfold expoL
      rw [if_neg h1, if_pos h2]
      trivial
      refine ⟨shaped_none, (shaped_ll [] _).2.2.1, ?_⟩
      rw [show ([PyData.none, .list (nL (splitAll B num.2).1)].any fun z => PyData.eqv z .none) = true by simp [PyData.eqv]]
      trivial
    case' inr.inr =>
      have eX : overD B num = .none := if_neg fun z => h1 z.1
      unfold expoL
      rw [if_neg h1, if_neg h2]
      trivial
      refine ⟨shaped_none, (shaped_ll [] []).2.2.2, ?_⟩
      rw [show ([PyData.none, .none].any fun z => PyData.eqv z .none) = true by simp [PyData.eqv]]
      trivial
    all_goals
      rw [eX] at x1 x2 x3 x4
      refine ⟨B, num, rfl, hB.cb, hB.srt, fun b hb => (b2 b hb).2, by omega, fn, ?_⟩
      rw [eX]
      trivial
      refine ⟨x2, x3, x4, ?_⟩
      trivial
      refine ⟨x2, x3, x4, ?_⟩
      trivial
      rw [nL_len]
      refine ⟨by omega, by omega, ?_⟩
      rw [toNat_dn]
      refine forL_go (fun r k e => k = n3 ∧ (∃ s4 s5 s6 s7 s8 s9 s10, e = [.pot, .val (.list (ps.map frD)), .val (.list (nL (partsOf ps))), .val (.tuple (nL B)), s4, s5, s6, s7, s8, s9, s10, .un, .un, .un, .un]) ∧ ∀ d ∈ r, ∃ m : Nat, d = .int m ∧ m < B.length) ?_ ?_ _ _ _ ⟨rfl, ⟨_, _, _, _, _, _, _, rfl⟩, fun d hd => ?_⟩
      · rintro d r k e NN hN ⟨rfl, ⟨s4, s5, s6, s7, s8, s9, s10, rfl⟩, hr⟩
        obtain ⟨m, rfl, hm⟩ := hr d List.mem_cons_self
        refine ⟨_, rfl, ?_⟩
        trivial
        refine sl_take ?_
        trivial
        refine sl_drop ?_
        trivial
        refine ⟨line_le (by rw [nL_len, nL_len, List.length_take, List.length_drop]; omega), ?_⟩
        rw [← nL_app]
        trivial
        have sub := rest_sub B m
        have rl : (rest B m).length ≤ 1000 := Nat.le_trans sub.length_le (by omega)
        have key : ∀ p : Nat × Nat, isN (overD (B.take m ++ B.drop (m + 1)) p) = isN (overD (rest B m) p) := fun _ => rfl
        refine comp_all (fun d => match d with | .tuple [.int a, .int c] => .bool (isN (overD (rest B m) (a.toNat, c.toNat))) | d => d) (fun d hd => ?_) (line_le (by rw [List.length_map]; omega)) ?_
        · obtain ⟨p, hp, rfl⟩ := List.mem_map.mp hd
          refine ⟨_, rfl, fun R hR => ?_⟩
          trivial
          refine ⟨rest B m, p, rfl, hB.cb.sublist sub, hB.srt.sublist sub, fun b hb => (b2 b (sub.subset hb)).2, rl, fr p hp, ?_⟩
          trivial
          have hR' : R k (.bool (isN (overD (rest B m) (((p.1 : Int)).toNat, ((p.2 : Int)).toNat)))) := hR
          rw [Int.toNat_natCast, Int.toNat_natCast] at hR'
          exact hR'
        have em : (ps.map frD).map (fun d => match d with | .tuple [.int a, .int c] => PyData.bool (isN (overD (rest B m) (a.toNat, c.toNat))) | d => d) = ps.map fun p => PyData.bool (isN (overD (rest B m) p)) := by
          rw [List.map_map]
          refine List.map_congr_left fun p _ => ?_
          show PyData.bool (isN (overD (rest B m) (((p.1 : Int)).toNat, ((p.2 : Int)).toNat))) = _
          rw [Int.toNat_natCast, Int.toNat_natCast]
        rw [em]
        trivial
        refine oAny_map (f := fun p => isN (overD (rest B m) p)) ?_
        rw [rest_need hB hm fr]
        trivial
        exact hN _ _ ⟨rfl, ⟨_, _, _, _, _, _, _, rfl⟩, fun d hd => hr d (List.mem_cons_of_mem _ hd)⟩
      · rintro k e ⟨rfl, ⟨s4, s5, s6, s7, s8, s9, s10, rfl⟩, _⟩
        trivial
        exact h _ (by omega)
      · unfold rangeD at hd
        obtain ⟨m, hm, rfl⟩ := List.mem_map.mp hd
        exact ⟨m, by rw [Int.zero_add], List.mem_range.mp hm⟩
end K20

set_option Elab.async false
set_option linter.all false
set_option maxRecDepth 100000
set_option maxHeartbeats 4000000
namespace K20
open PySem PySem.Spec PyProof.Rows L2 PL
open Classical
local macro_rules | `(tactic| trivial) => `(tactic| (repeat (first | (with_reducible first | refine st_bin ?_ | refine st_v0v ?_ | refine st_v0o ?_ | refine st_v1v ?_ | refine st_v1o ?_ | refine st_v2v ?_ | refine st_v2o ?_ | refine st_v3v ?_ | refine st_v3o ?_ | refine st_v4v ?_ | refine st_v4o ?_ | refine st_v5v ?_ | refine st_v5o ?_ | refine st_v6v ?_ | refine st_v6o ?_ | refine st_v7v ?_ | refine st_v7o ?_ | refine st_v8v ?_ | refine st_v8o ?_ | refine st_v9v ?_ | refine st_v9o ?_ | refine st_v10v ?_ | refine st_v10o ?_ | refine st_v11v ?_ | refine st_v11o ?_ | refine st_v12v ?_ | refine st_v12o ?_ | refine st_v13v ?_ | refine st_v13o ?_ | refine st_v14v ?_ | refine st_v14o ?_ | refine st_v15v ?_ | refine st_v15o ?_ | refine st_C ?_ | refine st_cons ?_ | refine st_nil ?_ | refine st_ca ?_ | refine st_bval ?_ | refine st_exb ?_ | refine st_exi ?_ | refine st_exs ?_ | refine st_exl ?_ | refine st_exil ?_ | refine st_exit ?_ | refine st_exiz ?_ | refine st_seq ?_ | refine st_iT ?_ | refine st_iF ?_ | refine st_k0 ?_ | refine st_k1 ?_ | refine st_k2 ?_ | refine st_k3 ?_ | refine st_z0 ?_ | refine st_z1 ?_ | refine st_z2 ?_ | refine st_z3 ?_ | refine st_z4 ?_ | refine st_z5 ?_ | refine st_z6 ?_ | refine st_z7 ?_ | refine st_z8 ?_ | refine st_z9 ?_ | refine st_z10 ?_ | refine st_z11 ?_ | refine st_z12 ?_ | refine st_z13 ?_ | refine st_z14 ?_ | refine st_z15 ?_ | refine st_z16 ?_ | refine st_z17 ?_ | refine st_z18 ?_ | refine st_z19 ?_ | refine st_z20 ?_ | refine st_z21 ?_ | refine st_z22 ?_ | refine st_z23 ?_ | refine st_z24 ?_ | refine st_ret ?_ | refine st_rV ?_ | refine st_rO ?_ | refine st_vR ?_ | refine st_call ?_ | refine st_set ?_ | refine st_if ?_ | refine st_lt ?_ | refine st_le ?_ | refine st_gt ?_ | refine st_ge ?_ | refine st_eqi ?_ | refine st_nei ?_ | refine st_eqs ?_ | refine st_nes ?_ | refine st_add ?_ | refine st_sub ?_ | refine st_is ?_ | refine st_isnot ?_ | refine st_ix0l ?_ | refine st_ix0t ?_ | refine st_ix1l ?_ | refine st_ix1t ?_ | refine st_ix2l ?_ | refine st_ix2t ?_ | refine st_len0l ?_ | refine st_len0t ?_ | refine st_len1l ?_ | refine st_len1t ?_ | refine st_len2l ?_ | refine st_len2t ?_ | refine st_len3l ?_ | refine st_len3t ?_ | refine st_len4l ?_ | refine st_len4t ?_ | refine st_lenl ?_ | refine st_lent ?_ | refine st_abs ?_ | refine st_inti ?_ | refine st_intb ?_ | refine st_tupl ?_ | refine st_tupt ?_ | refine st_listl ?_ | refine st_listt ?_ | refine st_strs ?_ | refine st_max ?_ | refine st_min ?_ | refine st_gcd ?_ | refine st_neg ?_ | refine st_tup ?_ | refine st_lst ?_ | refine st_not ?_ | refine st_and ?_ | refine st_or ?_ | refine st_pnot ?_ | refine st_pand ?_ | refine st_por ?_ | refine st_pif ?_ | refine st_chain ?_ | refine st_isi ?_ | refine st_m1 ?_ | refine st_next ?_ | refine st_break ?_ | refine st_cont ?_ | refine st_retN ?_ | refine st_r0v ?_ | refine st_r0o ?_ | refine st_m0v ?_ | refine st_m0o ?_ | refine st_app0 ?_ | refine st_ext0 ?_ | refine st_gown0 ?_ | refine st_gext0 ?_ | refine st_d0 ?_ | refine st_p00 ?_ | refine st_p10 ?_ | refine st_p20 ?_ | refine st_w00 ?_ | refine st_w20 ?_ | refine st_r1v ?_ | refine st_r1o ?_ | refine st_m1v ?_ | refine st_m1o ?_ | refine st_app1 ?_ | refine st_ext1 ?_ | refine st_gown1 ?_ | refine st_gext1 ?_ | refine st_d1 ?_ | refine st_p01 ?_ | refine st_p11 ?_ | refine st_p21 ?_ | refine st_w01 ?_ | refine st_w21 ?_ | refine st_r2v ?_ | refine st_r2o ?_ | refine st_m2v ?_ | refine st_m2o ?_ | refine st_app2 ?_ | refine st_ext2 ?_ | refine st_gown2 ?_ | refine st_gext2 ?_ | refine st_d2 ?_ | refine st_p02 ?_ | refine st_p12 ?_ | refine st_p22 ?_ | refine st_w02 ?_ | refine st_w22 ?_ | refine st_r3v ?_ | refine st_r3o ?_ | refine st_m3v ?_ | refine st_m3o ?_ | refine st_app3 ?_ | refine st_ext3 ?_ | refine st_gown3 ?_ | refine st_gext3 ?_ | refine st_r4v ?_ | refine st_r4o ?_ | refine st_m4v ?_ | refine st_m4o ?_ | refine st_app4 ?_ | refine st_ext4 ?_ | refine st_gown4 ?_ | refine st_gext4 ?_ | refine st_r5v ?_ | refine st_r5o ?_ | refine st_m5v ?_ | refine st_m5o ?_ | refine st_app5 ?_ | refine st_ext5 ?_ | refine st_gown5 ?_ | refine st_gext5 ?_ | refine st_r6v ?_ | refine st_r6o ?_ | refine st_m6v ?_ | refine st_m6o ?_ | refine st_app6 ?_ | refine st_ext6 ?_ | refine st_gown6 ?_ | refine st_gext6 ?_ | refine st_r7v ?_ | refine st_r7o ?_ | refine st_m7v ?_ | refine st_m7o ?_ | refine st_app7 ?_ | refine st_ext7 ?_ | refine st_gown7 ?_ | refine st_gext7 ?_ | refine st_r8v ?_ | refine st_r8o ?_ | refine st_m8v ?_ | refine st_m8o ?_ | refine st_app8 ?_ | refine st_ext8 ?_ | refine st_gown8 ?_ | refine st_gext8 ?_ | refine st_r9v ?_ | refine st_r9o ?_ | refine st_m9v ?_ | refine st_m9o ?_ | refine st_app9 ?_ | refine st_ext9 ?_ | refine st_gown9 ?_ | refine st_gext9 ?_ | refine st_r10v ?_ | refine st_r10o ?_ | refine st_m10v ?_ | refine st_m10o ?_ | refine st_app10 ?_ | refine st_ext10 ?_ | refine st_gown10 ?_ | refine st_gext10 ?_ | refine st_r11v ?_ | refine st_r11o ?_ | refine st_m11v ?_ | refine st_m11o ?_ | refine st_app11 ?_ | refine st_ext11 ?_ | refine st_gown11 ?_ | refine st_gext11 ?_ | refine st_r12v ?_ | refine st_r12o ?_ | refine st_m12v ?_ | refine st_m12o ?_ | refine st_app12 ?_ | refine st_ext12 ?_ | refine st_gown12 ?_ | refine st_gext12 ?_ | refine st_r13v ?_ | refine st_r13o ?_ | refine st_m13v ?_ | refine st_m13o ?_ | refine st_app13 ?_ | refine st_ext13 ?_ | refine st_gown13 ?_ | refine st_gext13 ?_ | refine st_r14v ?_ | refine st_r14o ?_ | refine st_m14v ?_ | refine st_m14o ?_ | refine st_app14 ?_ | refine st_ext14 ?_ | refine st_gown14 ?_ | refine st_gext14 ?_ | refine st_r15v ?_ | refine st_r15o ?_ | refine st_m15v ?_ | refine st_m15o ?_ | refine st_app15 ?_ | refine st_ext15 ?_ | refine st_gown15 ?_ | refine st_gext15 ?_ | refine st_par ?_ | refine st_asg ?_ | refine st_ex ?_ | refine st_mR ?_ | refine st_mtup ?_ | refine st_mnil ?_ | refine st_mcons ?_ | refine st_for ?_ | refine st_imseq ?_ | refine st_iseq ?_ | refine st_imof ?_ | refine st_imr1 ?_ | refine st_ir1 ?_ | refine st_imr2 ?_ | refine st_enu ?_ | refine st_enl ?_ | refine st_ent ?_ | refine st_zip ?_ | refine st_zl ?_ | refine st_zt ?_ | refine st_lc ?_ | refine st_lc2 ?_ | refine st_oca ?_ | refine st_cat ?_ | refine st_excat ?_ | refine st_sll ?_ | refine st_sl ?_ | refine st_rev ?_ | refine st_nno ?_ | refine st_nat ?_ | refine st_tname ?_ | refine st_tt2 ?_ | refine st_mod (by omega) ?_ | refine st_fdv (by omega) (by omega) ?_ | refine st_mull (by omega) (by omega) ?_ | refine st_mulr (by omega) (by omega) ?_ | refine st_pow (by decide) (by decide) (by decide) ?_ | refine e_is_integer ?_ | refine e_common ?_ | refine e_is_fraction ?_ | refine e_law_common (by omega) (by omega) (by omega) (by omega) ?_) | (simp only [keepR, lfr, lf, lfs, frz, frz1, Rv.sl, Rv.d, updE, wipeE, fill_cc, fill_cn, fill_nn, dn, lfs_nL, lf_expoD, isI_dn, lfs_frD, isT_int_none, isT_int_bool, isT_int_int, isT_int_str, isT_int_list, isT_int_tuple, isT_bool_none, isT_bool_bool, isT_bool_int, isT_bool_str, isT_bool_list, isT_bool_tuple, isT_str_none, isT_str_bool, isT_str_int, isT_str_str, isT_str_list, isT_str_tuple, isT_list_none, isT_list_bool, isT_list_int, isT_list_str, isT_list_list, isT_list_tuple, isT_tuple_none, isT_tuple_bool, isT_tuple_int, isT_tuple_str, isT_tuple_list, isT_tuple_tuple, List.set_cons_zero, List.set_cons_succ, List.map_cons, List.map_nil, List.cons_append, List.nil_append, List.append_nil, Nat.reduceAdd, Nat.reduceSub, Nat.zero_add, Bool.and_true, Bool.true_and, Bool.and_self, Bool.not_true, Bool.not_false, Bool.and_false, Bool.false_and, Bool.or_false, Bool.false_or, Bool.or_true, Bool.true_or, if_true, reduceIte, isN, Bool.false_eq_true, if_false, Int.cast_ofNat_Int, Int.natCast_zero, Int.natCast_one, true_and, decide_true, decide_false, eq_self]))))
theorem compD {tg : Tgt} {te : VT} {vs : List Nat} {e : En} (c M : Nat) (g : D → D) : ∀ (ds acc : List D) (n : Nat) (Q : Nat → List D → Prop), (∀ d ∈ ds, ∀ (n : Nat) (R : Nat → D → Prop), n + c ≤ M → (∀ n', n' ≤ n + c → R n' (g d)) → ∃ l, tg d = some l ∧ te n (updE (wipeE e vs) l) R) →
    n + c * ds.length ≤ M → acc.length + ds.length ≤ sizeLine → (∀ n', n' ≤ n + c * ds.length → Q n' (acc ++ ds.map g)) → compL tg bYes te vs e ds acc n Q
  | [], acc, n, Q, _, _, _, q => by
    have := q n (Nat.le_add_right _ _)
    rw [List.map_nil, List.append_nil] at this
    exact this
  | d :: ds, acc, n, Q, h, hM, hz, q => by
    rw [List.length_cons] at hz
    rw [List.length_cons, Nat.mul_succ] at hM q
    obtain ⟨l, hl, ht⟩ := h d List.mem_cons_self n (fun n2 y => acc.length < sizeLine ∧ compL tg bYes te vs e ds (acc ++ [y]) n2 Q) (by omega) (fun n' hn' => by
      refine ⟨by omega, compD c M g ds (acc ++ [g d]) n' Q (fun d' hd => h d' (List.mem_cons_of_mem _ hd)) (by omega) (by rw [List.length_append, List.length_singleton]; omega) (fun n2 hn2 => ?_)⟩
      rw [List.append_assoc]
      exact q n2 (by omega))
    exact ⟨l, hl, iteT (B := compL tg bYes te vs e ds acc n Q) ht⟩
theorem h_law : ∀ (a : Addr) (ns : List Int) (ds : List D) (Q : Rv → Prop), ds.length = 0 → f_law ns ds Q → p_law a ns { nx := fun _ _ => Q (.val .none), rt := fun _ r => Q r } 0 (PL.fill ["script", "place", "pot", "lap"] (.kn (.ref a) :: ds.map Sl.val)) := by
  rintro a ns ds Q hl ⟨rfl, hz, h⟩
  unfold p_law
  trivial
  refine ⟨rfl, ?_⟩
  trivial
  refine ⟨rfl, hz, fun k k1 k2 => ?_⟩
  have lr : ∀ (lo : Int) (k : Nat), lfs (rangeD lo k) = true := fun lo k => by
    unfold rangeD
    have : ∀ l : List Nat, lfs (l.map fun k => PyData.int (lo + (k : Nat))) = true := fun l => by
      induction l with
      | nil => rfl
      | cons x l ih => exact ih
    exact this _
  trivial
  simp only [lr, if_true]
  trivial
  refine forL_go (fun r k e => k = 0 ∧ (∃ s1 s2 s3, e = [.kn (.ref a), s1, s2, s3]) ∧ ∀ d ∈ r, ∃ m : Nat, d = .int m ∧ m ≤ 3) ?_ ?_ _ _ _ ⟨rfl, ⟨_, _, _, rfl⟩, fun d hd => ?_⟩
  · rintro d r k e NN hN ⟨rfl, ⟨s1, s2, s3, rfl⟩, hr⟩
    obtain ⟨m, rfl, hm⟩ := hr d List.mem_cons_self
    refine ⟨_, rfl, ?_⟩
    trivial
    unfold sMk
    refine ⟨rfl, ?_⟩
    trivial
    refine ⟨m, rfl, hm, hz, fun x y x0 x1 y0 y1 => ?_⟩
    refine ⟨x, y, rfl, x0, x1, y0, y1, ?_⟩
    trivial
    refine ⟨by omega, by omega, ?_⟩
    refine compD 200 Most (fun _ => .bool true) _ _ _ _ (fun d hd n R hn hR => ?_) (by unfold Most; decide) (line_le (by decide)) (fun n' hn' => ?_)
    · refine ⟨_, rfl, ?_⟩
      trivial
      refine ⟨rfl, hn, fun n' hn' => ?_⟩
      trivial
      exact hR n' hn'
    · trivial
      refine oAll_map (f := fun _ => true) ?_
      rw [show ((rangeD 0 (6 : Int).toNat).all fun _ => true) = true by simp]
      trivial
      rw [rangeD_len] at hn'
      refine ⟨rfl, by unfold Most; have : n' ≤ 0 + 200 * 6 := hn'; omega, fun n2 hn2 => ?_⟩
      trivial
      exact hN _ _ ⟨rfl, ⟨_, _, _, rfl⟩, fun d hd => hr d (List.mem_cons_of_mem _ hd)⟩
  · rintro k e ⟨rfl, ⟨s1, s2, s3, rfl⟩, _⟩
    trivial
    exact h
  · unfold rangeD at hd
    obtain ⟨m, hm, rfl⟩ := List.mem_map.mp hd
    have := List.mem_range.mp hm
    exact ⟨m, by rw [Int.zero_add], by omega⟩
end K20

set_option Elab.async false
set_option linter.all false
set_option maxRecDepth 100000
set_option maxHeartbeats 4000000
namespace K20
open PySem PySem.Spec PyProof.Rows L2 PL
open Classical
theorem all_mk {l : PySem.W.OpenLaw} {w : World} {K : PySem.W.Frag} {h : Heap} {mg : Str → Option Value} {fa : Addr} (X : K.In h) (G : h.Ns mainGlobals mg) (hfa : mg "law" = some (.ref fa))
    {ad_is_integer : Addr} {od_is_integer an_is_integer : Option Addr} {sl_is_integer : Array (Option Value)} {oc_is_integer kV_is_integer dc_is_integer pm_is_integer cd_is_integer ct_is_integer : Value}
    (a_is_integer : PySem.W.nsIn K mainGlobals "is_integer" = some (some (.ref ad_is_integer))) (l_is_integer : K.lookup ad_is_integer = some ⟨oc_is_integer, od_is_integer, .func (PySem.W.fnOf "is_integer" "is_integer" (defArgs t_is_integer) (defBody t_is_integer) (defScope t_is_integer) .none kV_is_integer dc_is_integer pm_is_integer an_is_integer cd_is_integer ct_is_integer), sl_is_integer⟩) (c_is_integer : PySem.W.codeIn K cd_is_integer "is_integer" = true) (k_is_integer : PySem.W.keepIn K (.ref ad_is_integer) = true)
    {ad_read_integer : Addr} {od_read_integer an_read_integer : Option Addr} {sl_read_integer : Array (Option Value)} {oc_read_integer kV_read_integer dc_read_integer pm_read_integer cd_read_integer ct_read_integer : Value}
    (a_read_integer : PySem.W.nsIn K mainGlobals "read_integer" = some (some (.ref ad_read_integer))) (l_read_integer : K.lookup ad_read_integer = some ⟨oc_read_integer, od_read_integer, .func (PySem.W.fnOf "read_integer" "read_integer" (defArgs t_read_integer) (defBody t_read_integer) (defScope t_read_integer) .none kV_read_integer dc_read_integer pm_read_integer an_read_integer cd_read_integer ct_read_integer), sl_read_integer⟩) (c_read_integer : PySem.W.codeIn K cd_read_integer "read_integer" = true) (k_read_integer : PySem.W.keepIn K (.ref ad_read_integer) = true)
    {ad_common : Addr} {od_common an_common : Option Addr} {sl_common : Array (Option Value)} {oc_common kV_common dc_common pm_common cd_common ct_common : Value}
    (a_common : PySem.W.nsIn K mainGlobals "common" = some (some (.ref ad_common))) (l_common : K.lookup ad_common = some ⟨oc_common, od_common, .func (PySem.W.fnOf "common" "common" (defArgs t_common) (defBody t_common) (defScope t_common) .none kV_common dc_common pm_common an_common cd_common ct_common), sl_common⟩) (c_common : PySem.W.codeIn K cd_common "common" = true) (k_common : PySem.W.keepIn K (.ref ad_common) = true)
    {ad_is_fraction : Addr} {od_is_fraction an_is_fraction : Option Addr} {sl_is_fraction : Array (Option Value)} {oc_is_fraction kV_is_fraction dc_is_fraction pm_is_fraction cd_is_fraction ct_is_fraction : Value}
    (a_is_fraction : PySem.W.nsIn K mainGlobals "is_fraction" = some (some (.ref ad_is_fraction))) (l_is_fraction : K.lookup ad_is_fraction = some ⟨oc_is_fraction, od_is_fraction, .func (PySem.W.fnOf "is_fraction" "is_fraction" (defArgs t_is_fraction) (defBody t_is_fraction) (defScope t_is_fraction) .none kV_is_fraction dc_is_fraction pm_is_fraction an_is_fraction cd_is_fraction ct_is_fraction), sl_is_fraction⟩) (c_is_fraction : PySem.W.codeIn K cd_is_fraction "is_fraction" = true) (k_is_fraction : PySem.W.keepIn K (.ref ad_is_fraction) = true)
    {ad_is_told_fraction : Addr} {od_is_told_fraction an_is_told_fraction : Option Addr} {sl_is_told_fraction : Array (Option Value)} {oc_is_told_fraction kV_is_told_fraction dc_is_told_fraction pm_is_told_fraction cd_is_told_fraction ct_is_told_fraction : Value}
    (a_is_told_fraction : PySem.W.nsIn K mainGlobals "is_told_fraction" = some (some (.ref ad_is_told_fraction))) (l_is_told_fraction : K.lookup ad_is_told_fraction = some ⟨oc_is_told_fraction, od_is_told_fraction, .func (PySem.W.fnOf "is_told_fraction" "is_told_fraction" (defArgs t_is_told_fraction) (defBody t_is_told_fraction) (defScope t_is_told_fraction) .none kV_is_told_fraction dc_is_told_fraction pm_is_told_fraction an_is_told_fraction cd_is_told_fraction ct_is_told_fraction), sl_is_told_fraction⟩) (c_is_told_fraction : PySem.W.codeIn K cd_is_told_fraction "is_told_fraction" = true) (k_is_told_fraction : PySem.W.keepIn K (.ref ad_is_told_fraction) = true)
    {ad_integer_text : Addr} {od_integer_text an_integer_text : Option Addr} {sl_integer_text : Array (Option Value)} {oc_integer_text kV_integer_text dc_integer_text pm_integer_text cd_integer_text ct_integer_text : Value}
    (a_integer_text : PySem.W.nsIn K mainGlobals "integer_text" = some (some (.ref ad_integer_text))) (l_integer_text : K.lookup ad_integer_text = some ⟨oc_integer_text, od_integer_text, .func (PySem.W.fnOf "integer_text" "integer_text" (defArgs t_integer_text) (defBody t_integer_text) (defScope t_integer_text) .none kV_integer_text dc_integer_text pm_integer_text an_integer_text cd_integer_text ct_integer_text), sl_integer_text⟩) (c_integer_text : PySem.W.codeIn K cd_integer_text "integer_text" = true) (k_integer_text : PySem.W.keepIn K (.ref ad_integer_text) = true)
    {ad_fraction_text : Addr} {od_fraction_text an_fraction_text : Option Addr} {sl_fraction_text : Array (Option Value)} {oc_fraction_text kV_fraction_text dc_fraction_text pm_fraction_text cd_fraction_text ct_fraction_text : Value}
    (a_fraction_text : PySem.W.nsIn K mainGlobals "fraction_text" = some (some (.ref ad_fraction_text))) (l_fraction_text : K.lookup ad_fraction_text = some ⟨oc_fraction_text, od_fraction_text, .func (PySem.W.fnOf "fraction_text" "fraction_text" (defArgs t_fraction_text) (defBody t_fraction_text) (defScope t_fraction_text) .none kV_fraction_text dc_fraction_text pm_fraction_text an_fraction_text cd_fraction_text ct_fraction_text), sl_fraction_text⟩) (c_fraction_text : PySem.W.codeIn K cd_fraction_text "fraction_text" = true) (k_fraction_text : PySem.W.keepIn K (.ref ad_fraction_text) = true)
    {ad_read_fraction : Addr} {od_read_fraction an_read_fraction : Option Addr} {sl_read_fraction : Array (Option Value)} {oc_read_fraction kV_read_fraction dc_read_fraction pm_read_fraction cd_read_fraction ct_read_fraction : Value}
    (a_read_fraction : PySem.W.nsIn K mainGlobals "read_fraction" = some (some (.ref ad_read_fraction))) (l_read_fraction : K.lookup ad_read_fraction = some ⟨oc_read_fraction, od_read_fraction, .func (PySem.W.fnOf "read_fraction" "read_fraction" (defArgs t_read_fraction) (defBody t_read_fraction) (defScope t_read_fraction) .none kV_read_fraction dc_read_fraction pm_read_fraction an_read_fraction cd_read_fraction ct_read_fraction), sl_read_fraction⟩) (c_read_fraction : PySem.W.codeIn K cd_read_fraction "read_fraction" = true) (k_read_fraction : PySem.W.keepIn K (.ref ad_read_fraction) = true)
    {ad_base_of : Addr} {od_base_of an_base_of : Option Addr} {sl_base_of : Array (Option Value)} {oc_base_of kV_base_of dc_base_of pm_base_of cd_base_of ct_base_of : Value}
    (a_base_of : PySem.W.nsIn K mainGlobals "base_of" = some (some (.ref ad_base_of))) (l_base_of : K.lookup ad_base_of = some ⟨oc_base_of, od_base_of, .func (PySem.W.fnOf "base_of" "base_of" (defArgs t_base_of) (defBody t_base_of) (defScope t_base_of) .none kV_base_of dc_base_of pm_base_of an_base_of cd_base_of ct_base_of), sl_base_of⟩) (c_base_of : PySem.W.codeIn K cd_base_of "base_of" = true) (k_base_of : PySem.W.keepIn K (.ref ad_base_of) = true)
    {ad_exponent_in : Addr} {od_exponent_in an_exponent_in : Option Addr} {sl_exponent_in : Array (Option Value)} {oc_exponent_in kV_exponent_in dc_exponent_in pm_exponent_in cd_exponent_in ct_exponent_in : Value}
    (a_exponent_in : PySem.W.nsIn K mainGlobals "exponent_in" = some (some (.ref ad_exponent_in))) (l_exponent_in : K.lookup ad_exponent_in = some ⟨oc_exponent_in, od_exponent_in, .func (PySem.W.fnOf "exponent_in" "exponent_in" (defArgs t_exponent_in) (defBody t_exponent_in) (defScope t_exponent_in) .none kV_exponent_in dc_exponent_in pm_exponent_in an_exponent_in cd_exponent_in ct_exponent_in), sl_exponent_in⟩) (c_exponent_in : PySem.W.codeIn K cd_exponent_in "exponent_in" = true) (k_exponent_in : PySem.W.keepIn K (.ref ad_exponent_in) = true)
    {ad_exponents_by : Addr} {od_exponents_by an_exponents_by : Option Addr} {sl_exponents_by : Array (Option Value)} {oc_exponents_by kV_exponents_by dc_exponents_by pm_exponents_by cd_exponents_by ct_exponents_by : Value}
    (a_exponents_by : PySem.W.nsIn K mainGlobals "exponents_by" = some (some (.ref ad_exponents_by))) (l_exponents_by : K.lookup ad_exponents_by = some ⟨oc_exponents_by, od_exponents_by, .func (PySem.W.fnOf "exponents_by" "exponents_by" (defArgs t_exponents_by) (defBody t_exponents_by) (defScope t_exponents_by) .none kV_exponents_by dc_exponents_by pm_exponents_by an_exponents_by cd_exponents_by ct_exponents_by), sl_exponents_by⟩) (c_exponents_by : PySem.W.codeIn K cd_exponents_by "exponents_by" = true) (k_exponents_by : PySem.W.keepIn K (.ref ad_exponents_by) = true)
    {ad_check_based : Addr} {od_check_based an_check_based : Option Addr} {sl_check_based : Array (Option Value)} {oc_check_based kV_check_based dc_check_based pm_check_based cd_check_based ct_check_based : Value}
    (a_check_based : PySem.W.nsIn K mainGlobals "check_based" = some (some (.ref ad_check_based))) (l_check_based : K.lookup ad_check_based = some ⟨oc_check_based, od_check_based, .func (PySem.W.fnOf "check_based" "check_based" (defArgs t_check_based) (defBody t_check_based) (defScope t_check_based) .none kV_check_based dc_check_based pm_check_based an_check_based cd_check_based ct_check_based), sl_check_based⟩) (c_check_based : PySem.W.codeIn K cd_check_based "check_based" = true) (k_check_based : PySem.W.keepIn K (.ref ad_check_based) = true)
    {ad_coprime_base : Addr} {od_coprime_base an_coprime_base : Option Addr} {sl_coprime_base : Array (Option Value)} {oc_coprime_base kV_coprime_base dc_coprime_base pm_coprime_base cd_coprime_base ct_coprime_base : Value}
    (a_coprime_base : PySem.W.nsIn K mainGlobals "coprime_base" = some (some (.ref ad_coprime_base))) (l_coprime_base : K.lookup ad_coprime_base = some ⟨oc_coprime_base, od_coprime_base, .func (PySem.W.fnOf "coprime_base" "coprime_base" (defArgs t_coprime_base) (defBody t_coprime_base) (defScope t_coprime_base) .none kV_coprime_base dc_coprime_base pm_coprime_base an_coprime_base cd_coprime_base ct_coprime_base), sl_coprime_base⟩) (c_coprime_base : PySem.W.codeIn K cd_coprime_base "coprime_base" = true) (k_coprime_base : PySem.W.keepIn K (.ref ad_coprime_base) = true)
    {ad_exponents_over : Addr} {od_exponents_over an_exponents_over : Option Addr} {sl_exponents_over : Array (Option Value)} {oc_exponents_over kV_exponents_over dc_exponents_over pm_exponents_over cd_exponents_over ct_exponents_over : Value}
    (a_exponents_over : PySem.W.nsIn K mainGlobals "exponents_over" = some (some (.ref ad_exponents_over))) (l_exponents_over : K.lookup ad_exponents_over = some ⟨oc_exponents_over, od_exponents_over, .func (PySem.W.fnOf "exponents_over" "exponents_over" (defArgs t_exponents_over) (defBody t_exponents_over) (defScope t_exponents_over) .none kV_exponents_over dc_exponents_over pm_exponents_over an_exponents_over cd_exponents_over ct_exponents_over), sl_exponents_over⟩) (c_exponents_over : PySem.W.codeIn K cd_exponents_over "exponents_over" = true) (k_exponents_over : PySem.W.keepIn K (.ref ad_exponents_over) = true)
    {ad_law_common : Addr} {od_law_common an_law_common : Option Addr} {sl_law_common : Array (Option Value)} {oc_law_common kV_law_common dc_law_common pm_law_common cd_law_common ct_law_common : Value}
    (a_law_common : PySem.W.nsIn K mainGlobals "_law_common" = some (some (.ref ad_law_common))) (l_law_common : K.lookup ad_law_common = some ⟨oc_law_common, od_law_common, .func (PySem.W.fnOf "_law_common" "_law_common" (defArgs t_law_common) (defBody t_law_common) (defScope t_law_common) .none kV_law_common dc_law_common pm_law_common an_law_common cd_law_common ct_law_common), sl_law_common⟩) (c_law_common : PySem.W.codeIn K cd_law_common "_law_common" = true) (k_law_common : PySem.W.keepIn K (.ref ad_law_common) = true)
    {ad_law_take : Addr} {od_law_take an_law_take : Option Addr} {sl_law_take : Array (Option Value)} {oc_law_take kV_law_take dc_law_take pm_law_take cd_law_take ct_law_take : Value}
    (a_law_take : PySem.W.nsIn K mainGlobals "_law_take" = some (some (.ref ad_law_take))) (l_law_take : K.lookup ad_law_take = some ⟨oc_law_take, od_law_take, .func (PySem.W.fnOf "_law_take" "_law_take" (defArgs t_law_take) (defBody t_law_take) (defScope t_law_take) .none kV_law_take dc_law_take pm_law_take an_law_take cd_law_take ct_law_take), sl_law_take⟩) (c_law_take : PySem.W.codeIn K cd_law_take "_law_take" = true) (k_law_take : PySem.W.keepIn K (.ref ad_law_take) = true)
    {ad_law_of : Addr} {od_law_of an_law_of : Option Addr} {sl_law_of : Array (Option Value)} {oc_law_of kV_law_of dc_law_of pm_law_of cd_law_of ct_law_of : Value}
    (a_law_of : PySem.W.nsIn K mainGlobals "_law_of" = some (some (.ref ad_law_of))) (l_law_of : K.lookup ad_law_of = some ⟨oc_law_of, od_law_of, .func (PySem.W.fnOf "_law_of" "_law_of" (defArgs t_law_of) (defBody t_law_of) (defScope t_law_of) .none kV_law_of dc_law_of pm_law_of an_law_of cd_law_of ct_law_of), sl_law_of⟩) (c_law_of : PySem.W.codeIn K cd_law_of "_law_of" = true) (k_law_of : PySem.W.keepIn K (.ref ad_law_of) = true)
    {ad_law_reduced : Addr} {od_law_reduced an_law_reduced : Option Addr} {sl_law_reduced : Array (Option Value)} {oc_law_reduced kV_law_reduced dc_law_reduced pm_law_reduced cd_law_reduced ct_law_reduced : Value}
    (a_law_reduced : PySem.W.nsIn K mainGlobals "_law_reduced" = some (some (.ref ad_law_reduced))) (l_law_reduced : K.lookup ad_law_reduced = some ⟨oc_law_reduced, od_law_reduced, .func (PySem.W.fnOf "_law_reduced" "_law_reduced" (defArgs t_law_reduced) (defBody t_law_reduced) (defScope t_law_reduced) .none kV_law_reduced dc_law_reduced pm_law_reduced an_law_reduced cd_law_reduced ct_law_reduced), sl_law_reduced⟩) (c_law_reduced : PySem.W.codeIn K cd_law_reduced "_law_reduced" = true) (k_law_reduced : PySem.W.keepIn K (.ref ad_law_reduced) = true)
    {ad_law_some : Addr} {od_law_some an_law_some : Option Addr} {sl_law_some : Array (Option Value)} {oc_law_some kV_law_some dc_law_some pm_law_some cd_law_some ct_law_some : Value}
    (a_law_some : PySem.W.nsIn K mainGlobals "_law_some" = some (some (.ref ad_law_some))) (l_law_some : K.lookup ad_law_some = some ⟨oc_law_some, od_law_some, .func (PySem.W.fnOf "_law_some" "_law_some" (defArgs t_law_some) (defBody t_law_some) (defScope t_law_some) .none kV_law_some dc_law_some pm_law_some an_law_some cd_law_some ct_law_some), sl_law_some⟩) (c_law_some : PySem.W.codeIn K cd_law_some "_law_some" = true) (k_law_some : PySem.W.keepIn K (.ref ad_law_some) = true)
    {ad_law_cells : Addr} {od_law_cells an_law_cells : Option Addr} {sl_law_cells : Array (Option Value)} {oc_law_cells kV_law_cells dc_law_cells pm_law_cells cd_law_cells ct_law_cells : Value}
    (a_law_cells : PySem.W.nsIn K mainGlobals "_law_cells" = some (some (.ref ad_law_cells))) (l_law_cells : K.lookup ad_law_cells = some ⟨oc_law_cells, od_law_cells, .func (PySem.W.fnOf "_law_cells" "_law_cells" (defArgs t_law_cells) (defBody t_law_cells) (defScope t_law_cells) .none kV_law_cells dc_law_cells pm_law_cells an_law_cells cd_law_cells ct_law_cells), sl_law_cells⟩) (c_law_cells : PySem.W.codeIn K cd_law_cells "_law_cells" = true) (k_law_cells : PySem.W.keepIn K (.ref ad_law_cells) = true)
    {ad_law_pot : Addr} {od_law_pot an_law_pot : Option Addr} {sl_law_pot : Array (Option Value)} {oc_law_pot kV_law_pot dc_law_pot pm_law_pot cd_law_pot ct_law_pot : Value}
    (a_law_pot : PySem.W.nsIn K mainGlobals "_law_pot" = some (some (.ref ad_law_pot))) (l_law_pot : K.lookup ad_law_pot = some ⟨oc_law_pot, od_law_pot, .func (PySem.W.fnOf "_law_pot" "_law_pot" (defArgs t_law_pot) (defBody t_law_pot) (defScope t_law_pot) .none kV_law_pot dc_law_pot pm_law_pot an_law_pot cd_law_pot ct_law_pot), sl_law_pot⟩) (c_law_pot : PySem.W.codeIn K cd_law_pot "_law_pot" = true) (k_law_pot : PySem.W.keepIn K (.ref ad_law_pot) = true)
    {ad_law_base : Addr} {od_law_base an_law_base : Option Addr} {sl_law_base : Array (Option Value)} {oc_law_base kV_law_base dc_law_base pm_law_base cd_law_base ct_law_base : Value}
    (a_law_base : PySem.W.nsIn K mainGlobals "_law_base" = some (some (.ref ad_law_base))) (l_law_base : K.lookup ad_law_base = some ⟨oc_law_base, od_law_base, .func (PySem.W.fnOf "_law_base" "_law_base" (defArgs t_law_base) (defBody t_law_base) (defScope t_law_base) .none kV_law_base dc_law_base pm_law_base an_law_base cd_law_base ct_law_base), sl_law_base⟩) (c_law_base : PySem.W.codeIn K cd_law_base "_law_base" = true) (k_law_base : PySem.W.keepIn K (.ref ad_law_base) = true)
    {ad_law_exponents : Addr} {od_law_exponents an_law_exponents : Option Addr} {sl_law_exponents : Array (Option Value)} {oc_law_exponents kV_law_exponents dc_law_exponents pm_law_exponents cd_law_exponents ct_law_exponents : Value}
    (a_law_exponents : PySem.W.nsIn K mainGlobals "_law_exponents" = some (some (.ref ad_law_exponents))) (l_law_exponents : K.lookup ad_law_exponents = some ⟨oc_law_exponents, od_law_exponents, .func (PySem.W.fnOf "_law_exponents" "_law_exponents" (defArgs t_law_exponents) (defBody t_law_exponents) (defScope t_law_exponents) .none kV_law_exponents dc_law_exponents pm_law_exponents an_law_exponents cd_law_exponents ct_law_exponents), sl_law_exponents⟩) (c_law_exponents : PySem.W.codeIn K cd_law_exponents "_law_exponents" = true) (k_law_exponents : PySem.W.keepIn K (.ref ad_law_exponents) = true)
    {ad_law_lot : Addr} {od_law_lot an_law_lot : Option Addr} {sl_law_lot : Array (Option Value)} {oc_law_lot kV_law_lot dc_law_lot pm_law_lot cd_law_lot ct_law_lot : Value}
    (a_law_lot : PySem.W.nsIn K mainGlobals "_law_lot" = some (some (.ref ad_law_lot))) (l_law_lot : K.lookup ad_law_lot = some ⟨oc_law_lot, od_law_lot, .func (PySem.W.fnOf "_law_lot" "_law_lot" (defArgs t_law_lot) (defBody t_law_lot) (defScope t_law_lot) .none kV_law_lot dc_law_lot pm_law_lot an_law_lot cd_law_lot ct_law_lot), sl_law_lot⟩) (c_law_lot : PySem.W.codeIn K cd_law_lot "_law_lot" = true) (k_law_lot : PySem.W.keepIn K (.ref ad_law_lot) = true)
    {ad_law_are_strings_right : Addr} {od_law_are_strings_right an_law_are_strings_right : Option Addr} {sl_law_are_strings_right : Array (Option Value)} {oc_law_are_strings_right kV_law_are_strings_right dc_law_are_strings_right pm_law_are_strings_right cd_law_are_strings_right ct_law_are_strings_right : Value}
    (a_law_are_strings_right : PySem.W.nsIn K mainGlobals "_law_are_strings_right" = some (some (.ref ad_law_are_strings_right))) (l_law_are_strings_right : K.lookup ad_law_are_strings_right = some ⟨oc_law_are_strings_right, od_law_are_strings_right, .func (PySem.W.fnOf "_law_are_strings_right" "_law_are_strings_right" (defArgs t_law_are_strings_right) (defBody t_law_are_strings_right) (defScope t_law_are_strings_right) .none kV_law_are_strings_right dc_law_are_strings_right pm_law_are_strings_right an_law_are_strings_right cd_law_are_strings_right ct_law_are_strings_right), sl_law_are_strings_right⟩) (c_law_are_strings_right : PySem.W.codeIn K cd_law_are_strings_right "_law_are_strings_right" = true) (k_law_are_strings_right : PySem.W.keepIn K (.ref ad_law_are_strings_right) = true)
    {ad_law_right : Addr} {od_law_right an_law_right : Option Addr} {sl_law_right : Array (Option Value)} {oc_law_right kV_law_right dc_law_right pm_law_right cd_law_right ct_law_right : Value}
    (a_law_right : PySem.W.nsIn K mainGlobals "_law_right" = some (some (.ref ad_law_right))) (l_law_right : K.lookup ad_law_right = some ⟨oc_law_right, od_law_right, .func (PySem.W.fnOf "_law_right" "_law_right" (defArgs t_law_right) (defBody t_law_right) (defScope t_law_right) .none kV_law_right dc_law_right pm_law_right an_law_right cd_law_right ct_law_right), sl_law_right⟩) (c_law_right : PySem.W.codeIn K cd_law_right "_law_right" = true) (k_law_right : PySem.W.keepIn K (.ref ad_law_right) = true)
    {ad_law : Addr} {od_law an_law : Option Addr} {sl_law : Array (Option Value)} {oc_law kV_law dc_law pm_law cd_law ct_law : Value}
    (a_law : PySem.W.nsIn K mainGlobals "law" = some (some (.ref ad_law))) (l_law : K.lookup ad_law = some ⟨oc_law, od_law, .func (PySem.W.fnOf "law" "law" (defArgs t_law) (defBody t_law) (defScope t_law) .none kV_law dc_law pm_law an_law cd_law ct_law), sl_law⟩) (c_law : PySem.W.codeIn K cd_law "law" = true) (k_law : PySem.W.keepIn K (.ref ad_law) = true)
    (z_abs : PySem.W.nsIn K mainGlobals "abs" = some none)
    (z_all : PySem.W.nsIn K mainGlobals "all" = some none)
    (z_any : PySem.W.nsIn K mainGlobals "any" = some none)
    (z_bool : PySem.W.nsIn K mainGlobals "bool" = some none)
    (z_enumerate : PySem.W.nsIn K mainGlobals "enumerate" = some none)
    (z_int : PySem.W.nsIn K mainGlobals "int" = some none)
    (z_isinstance : PySem.W.nsIn K mainGlobals "isinstance" = some none)
    (z_len : PySem.W.nsIn K mainGlobals "len" = some none)
    (z_list : PySem.W.nsIn K mainGlobals "list" = some none)
    (z_max : PySem.W.nsIn K mainGlobals "max" = some none)
    (z_min : PySem.W.nsIn K mainGlobals "min" = some none)
    (z_range : PySem.W.nsIn K mainGlobals "range" = some none)
    (z_repr : PySem.W.nsIn K mainGlobals "repr" = some none)
    (z_sorted : PySem.W.nsIn K mainGlobals "sorted" = some none)
    (z_str : PySem.W.nsIn K mainGlobals "str" = some none)
    (z_sum : PySem.W.nsIn K mainGlobals "sum" = some none)
    (z_tuple : PySem.W.nsIn K mainGlobals "tuple" = some none)
    (z_zip : PySem.W.nsIn K mainGlobals "zip" = some none)
    {tk_BEYOND : Tok} (g_BEYOND : PySem.W.nsIn K mainGlobals "BEYOND" = some (some (.int v_BEYOND tk_BEYOND)))
    {tk_FIGURES : Tok} (g_FIGURES : PySem.W.nsIn K mainGlobals "FIGURES" = some (some (.str v_FIGURES tk_FIGURES)))
    {tk_MINUS : Tok} (g_MINUS : PySem.W.nsIn K mainGlobals "MINUS" = some (some (.str v_MINUS tk_MINUS)))
    {tk_MOST_BASED : Tok} (g_MOST_BASED : PySem.W.nsIn K mainGlobals "MOST_BASED" = some (some (.int v_MOST_BASED tk_MOST_BASED)))
    {tk_MOST_FIGURES : Tok} (g_MOST_FIGURES : PySem.W.nsIn K mainGlobals "MOST_FIGURES" = some (some (.int v_MOST_FIGURES tk_MOST_FIGURES)))
    {tk_PART : Tok} (g_PART : PySem.W.nsIn K mainGlobals "PART" = some (some (.int v_PART tk_PART)))
    {tk_STROKE : Tok} (g_STROKE : PySem.W.nsIn K mainGlobals "STROKE" = some (some (.str v_STROKE tk_STROKE)))
    (g_gcd : PySem.W.nsIn K mainGlobals "gcd" = some (some (.builtin "math.gcd"))) :
    ∃ fd : FuncData, (∀ (s : Shared) (v : Value), BindsTo s fd ⟨[v], []⟩ [("script", v)]) ∧ ∀ base : Heap, K.In base → base.Ns mainGlobals mg → FnG l.prog w K mg base L2.CX0 7 fa fd ["script"] (spS K 0 f_law) := by
  have e := hfa.symm.trans (PySem.W.mg_of X G a_law)
  cases e
  have F_is_integer := fun_mk (st := t_is_integer) l_is_integer c_is_integer k_is_integer
  have b_is_integer := F_is_integer.binds (ps := ["value"]) fun _ _ _ _ _ _ us hl => match us, hl with | [_], _ => rfl
  have F_read_integer := fun_mk (st := t_read_integer) l_read_integer c_read_integer k_read_integer
  have b_read_integer := F_read_integer.binds (ps := ["text"]) fun _ _ _ _ _ _ us hl => match us, hl with | [_], _ => rfl
  have F_common := fun_mk (st := t_common) l_common c_common k_common
  have b_common := F_common.binds (ps := ["one", "other"]) fun _ _ _ _ _ _ us hl => match us, hl with | [_, _], _ => rfl
  have F_is_fraction := fun_mk (st := t_is_fraction) l_is_fraction c_is_fraction k_is_fraction
  have b_is_fraction := F_is_fraction.binds (ps := ["value"]) fun _ _ _ _ _ _ us hl => match us, hl with | [_], _ => rfl
  have F_is_told_fraction := fun_mk (st := t_is_told_fraction) l_is_told_fraction c_is_told_fraction k_is_told_fraction
  have b_is_told_fraction := F_is_told_fraction.binds (ps := ["value"]) fun _ _ _ _ _ _ us hl => match us, hl with | [_], _ => rfl
  have F_integer_text := fun_mk (st := t_integer_text) l_integer_text c_integer_text k_integer_text
  have b_integer_text := F_integer_text.binds (ps := ["one"]) fun _ _ _ _ _ _ us hl => match us, hl with | [_], _ => rfl
  have F_fraction_text := fun_mk (st := t_fraction_text) l_fraction_text c_fraction_text k_fraction_text
  have b_fraction_text := F_fraction_text.binds (ps := ["one"]) fun _ _ _ _ _ _ us hl => match us, hl with | [_], _ => rfl
  have F_read_fraction := fun_mk (st := t_read_fraction) l_read_fraction c_read_fraction k_read_fraction
  have b_read_fraction := F_read_fraction.binds (ps := ["text"]) fun _ _ _ _ _ _ us hl => match us, hl with | [_], _ => rfl
  have F_base_of := fun_mk (st := t_base_of) l_base_of c_base_of k_base_of
  have b_base_of := F_base_of.binds (ps := ["numbers"]) fun _ _ _ _ _ _ us hl => match us, hl with | [_], _ => rfl
  have F_exponent_in := fun_mk (st := t_exponent_in) l_exponent_in c_exponent_in k_exponent_in
  have b_exponent_in := F_exponent_in.binds (ps := ["number", "part"]) fun _ _ _ _ _ _ us hl => match us, hl with | [_, _], _ => rfl
  have F_exponents_by := fun_mk (st := t_exponents_by) l_exponents_by c_exponents_by k_exponents_by
  have b_exponents_by := F_exponents_by.binds (ps := ["base", "number"]) fun _ _ _ _ _ _ us hl => match us, hl with | [_, _], _ => rfl
  have F_check_based := fun_mk (st := t_check_based) l_check_based c_check_based k_check_based
  have b_check_based := F_check_based.binds (ps := ["numbers"]) fun _ _ _ _ _ _ us hl => match us, hl with | [_], _ => rfl
  have F_coprime_base := fun_mk (st := t_coprime_base) l_coprime_base c_coprime_base k_coprime_base
  have b_coprime_base := F_coprime_base.binds (ps := ["numbers"]) fun _ _ _ _ _ _ us hl => match us, hl with | [_], _ => rfl
  have F_exponents_over := fun_mk (st := t_exponents_over) l_exponents_over c_exponents_over k_exponents_over
  have b_exponents_over := F_exponents_over.binds (ps := ["base", "number"]) fun _ _ _ _ _ _ us hl => match us, hl with | [_, _], _ => rfl
  have F_law_common := fun_mk (st := t_law_common) l_law_common c_law_common k_law_common
  have b_law_common := F_law_common.binds (ps := ["one", "other"]) fun _ _ _ _ _ _ us hl => match us, hl with | [_, _], _ => rfl
  have F_law_take := fun_mk (st := t_law_take) l_law_take c_law_take k_law_take
  have b_law_take := F_law_take.binds (ps := ["pot", "upto"]) fun _ _ _ _ _ _ us hl => match us, hl with | [_, _], _ => rfl
  have F_law_of := fun_mk (st := t_law_of) l_law_of c_law_of k_law_of
  have b_law_of := F_law_of.binds (ps := ["pot", "some"]) fun _ _ _ _ _ _ us hl => match us, hl with | [_, _], _ => rfl
  have F_law_reduced := fun_mk (st := t_law_reduced) l_law_reduced c_law_reduced k_law_reduced
  have b_law_reduced := F_law_reduced.binds (ps := ["top", "low"]) fun _ _ _ _ _ _ us hl => match us, hl with | [_, _], _ => rfl
  have F_law_some := fun_mk (st := t_law_some) l_law_some c_law_some k_law_some
  have b_law_some := F_law_some.binds (ps := ["pot", "some", "amount"]) fun _ _ _ _ _ _ us hl => match us, hl with | [_, _, _], _ => rfl
  have F_law_cells := fun_mk (st := t_law_cells) l_law_cells c_law_cells k_law_cells
  have b_law_cells := F_law_cells.binds (ps := ["script", "limit"]) fun _ _ _ _ _ _ us hl => match us, hl with | [_, _], _ => rfl
  have F_law_pot := fun_mk (st := t_law_pot) l_law_pot c_law_pot k_law_pot
  have b_law_pot := F_law_pot.binds (ps := ["script", "place"]) fun _ _ _ _ _ _ us hl => match us, hl with | [_, _], _ => rfl
  have F_law_base := fun_mk (st := t_law_base) l_law_base c_law_base k_law_base
  have b_law_base := F_law_base.binds (ps := ["numbers"]) fun _ _ _ _ _ _ us hl => match us, hl with | [_], _ => rfl
  have F_law_exponents := fun_mk (st := t_law_exponents) l_law_exponents c_law_exponents k_law_exponents
  have b_law_exponents := F_law_exponents.binds (ps := ["base", "number"]) fun _ _ _ _ _ _ us hl => match us, hl with | [_, _], _ => rfl
  have F_law_lot := fun_mk (st := t_law_lot) l_law_lot c_law_lot k_law_lot
  have b_law_lot := F_law_lot.binds (ps := ["pot"]) fun _ _ _ _ _ _ us hl => match us, hl with | [_], _ => rfl
  have F_law_are_strings_right := fun_mk (st := t_law_are_strings_right) l_law_are_strings_right c_law_are_strings_right k_law_are_strings_right
  have b_law_are_strings_right := F_law_are_strings_right.binds (ps := ["pot"]) fun _ _ _ _ _ _ us hl => match us, hl with | [_], _ => rfl
  have F_law_right := fun_mk (st := t_law_right) l_law_right c_law_right k_law_right
  have b_law_right := F_law_right.binds (ps := ["pot"]) fun _ _ _ _ _ _ us hl => match us, hl with | [_], _ => rfl
  have F_law := fun_mk (st := t_law) l_law c_law k_law
  have b_law := F_law.binds (ps := ["script"]) fun _ _ _ _ _ _ us hl => match us, hl with | [_], _ => rfl
  have y_abs := PySem.W.mg_none_of X G z_abs
  have y_all := PySem.W.mg_none_of X G z_all
  have y_any := PySem.W.mg_none_of X G z_any
  have y_bool := PySem.W.mg_none_of X G z_bool
  have y_enumerate := PySem.W.mg_none_of X G z_enumerate
  have y_int := PySem.W.mg_none_of X G z_int
  have y_isinstance := PySem.W.mg_none_of X G z_isinstance
  have y_len := PySem.W.mg_none_of X G z_len
  have y_list := PySem.W.mg_none_of X G z_list
  have y_max := PySem.W.mg_none_of X G z_max
  have y_min := PySem.W.mg_none_of X G z_min
  have y_range := PySem.W.mg_none_of X G z_range
  have y_repr := PySem.W.mg_none_of X G z_repr
  have y_sorted := PySem.W.mg_none_of X G z_sorted
  have y_str := PySem.W.mg_none_of X G z_str
  have y_sum := PySem.W.mg_none_of X G z_sum
  have y_tuple := PySem.W.mg_none_of X G z_tuple
  have y_zip := PySem.W.mg_none_of X G z_zip
  have m_BEYOND : ∃ t, mg "BEYOND" = some (.int v_BEYOND t) := ⟨_, PySem.W.mg_of X G g_BEYOND⟩
  have m_FIGURES : ∃ t, mg "FIGURES" = some (.str v_FIGURES t) := ⟨_, PySem.W.mg_of X G g_FIGURES⟩
  have m_MINUS : ∃ t, mg "MINUS" = some (.str v_MINUS t) := ⟨_, PySem.W.mg_of X G g_MINUS⟩
  have m_MOST_BASED : ∃ t, mg "MOST_BASED" = some (.int v_MOST_BASED t) := ⟨_, PySem.W.mg_of X G g_MOST_BASED⟩
  have m_MOST_FIGURES : ∃ t, mg "MOST_FIGURES" = some (.int v_MOST_FIGURES t) := ⟨_, PySem.W.mg_of X G g_MOST_FIGURES⟩
  have m_PART : ∃ t, mg "PART" = some (.int v_PART t) := ⟨_, PySem.W.mg_of X G g_PART⟩
  have m_STROKE : ∃ t, mg "STROKE" = some (.str v_STROKE t) := ⟨_, PySem.W.mg_of X G g_STROKE⟩
  have m_gcd := PySem.W.mg_of X G g_gcd
  have kb_coprime_base := fun_kbinds (ps := ["numbers"]) (ks := ["numbers"]) F_coprime_base (by decide) fun _ _ _ _ _ _ ws hl => match ws, hl with | [_], _ => rfl
  have kb_exponents_over := fun_kbinds (ps := ["base", "number"]) (ks := ["base", "number"]) F_exponents_over (by decide) fun _ _ _ _ _ _ ws hl => match ws, hl with | [_, _], _ => rfl
  refine ⟨PySem.W.fnOf "law" "law" (defArgs t_law) (defBody t_law) (defScope t_law) .none kV_law dc_law pm_law an_law cd_law ct_law, fun s v => .of_eq rfl, fun base _ _ => ?_⟩
  have C_is_integer : Cal l.prog w K mg base L2.CX0 1 "is_integer" ad_is_integer _ ["value"] (spP K 1 f_is_integer) := ⟨fnP F_is_integer sc_is_integer (fun b cdv A outer s H E hpt hr hg => d_is_integer y_bool y_int y_isinstance b cdv A outer s H E hpt hr hg) h_is_integer, PySem.W.mg_of X G a_is_integer, k_is_integer, b_is_integer⟩
  have C_read_integer : Cal l.prog w K mg base L2.CX0 1 "read_integer" ad_read_integer _ ["text"] (spP K 1 f_read_integer) := ⟨fnP F_read_integer sc_read_integer (fun b cdv A outer s H E hpt hr hg => d_read_integer y_all y_int y_len m_FIGURES m_MINUS m_MOST_FIGURES b cdv A outer s H E hpt hr hg) h_read_integer, PySem.W.mg_of X G a_read_integer, k_read_integer, b_read_integer⟩
  have C_common : Cal l.prog w K mg base L2.CX0 1 "common" ad_common _ ["one", "other"] (spP K 2 f_common) := ⟨fnP F_common sc_common (fun b cdv A outer s H E hpt hr hg => d_common m_gcd b cdv A outer s H E hpt hr hg) h_common, PySem.W.mg_of X G a_common, k_common, b_common⟩
  have C_is_fraction : Cal l.prog w K mg base L2.CX0 2 "is_fraction" ad_is_fraction _ ["value"] (spP K 1 f_is_fraction) := ⟨fnP F_is_fraction sc_is_fraction (fun b cdv A outer s H E hpt hr hg => d_is_fraction C_common C_is_integer y_all y_isinstance y_len y_tuple b cdv A outer s H E hpt hr hg) h_is_fraction, PySem.W.mg_of X G a_is_fraction, k_is_fraction, b_is_fraction⟩
  have C_is_told_fraction : Cal l.prog w K mg base L2.CX0 3 "is_told_fraction" ad_is_told_fraction _ ["value"] (spP K 1 f_is_told_fraction) := ⟨fnP F_is_told_fraction sc_is_told_fraction (fun b cdv A outer s H E hpt hr hg => d_is_told_fraction C_is_fraction y_abs m_BEYOND b cdv A outer s H E hpt hr hg) h_is_told_fraction, PySem.W.mg_of X G a_is_told_fraction, k_is_told_fraction, b_is_told_fraction⟩
  have C0_integer_text : Cal l.prog w K mg base L2.CX0 0 "integer_text" ad_integer_text _ ["one"] (spP K 1 fun _ _ => False) := ⟨⟨fun vs H Q E q => by obtain ⟨_, _, _, _, _, _, q, _⟩ := q; exact q.elim, fun A outer s H args us vs Q E _ _ _ _ _ q => by obtain ⟨_, _, _, _, _, _, q, _⟩ := q; exact q.elim⟩, PySem.W.mg_of X G a_integer_text, k_integer_text, b_integer_text⟩
  have C1_integer_text : Cal l.prog w K mg base L2.CX0 1 "integer_text" ad_integer_text _ ["one"] (spP K 1 f_int0) := ⟨fnP F_integer_text sc_integer_text (fun b cdv A outer s H E hpt hr hg => d_integer_text C0_integer_text y_str m_MINUS m_PART b cdv A outer s H E hpt hr hg) (h_integer_text0 _), PySem.W.mg_of X G a_integer_text, k_integer_text, b_integer_text⟩
  have C_integer_text : Cal l.prog w K mg base L2.CX0 2 "integer_text" ad_integer_text _ ["one"] (spP K 1 f_integer_text) := ⟨fnP F_integer_text sc_integer_text (fun b cdv A outer s H E hpt hr hg => d_integer_text C1_integer_text y_str m_MINUS m_PART b cdv A outer s H E hpt hr hg) h_integer_text, PySem.W.mg_of X G a_integer_text, k_integer_text, b_integer_text⟩
  have C_fraction_text : Cal l.prog w K mg base L2.CX0 3 "fraction_text" ad_fraction_text _ ["one"] (spP K 1 f_fraction_text) := ⟨fnP F_fraction_text sc_fraction_text (fun b cdv A outer s H E hpt hr hg => d_fraction_text C_integer_text m_STROKE b cdv A outer s H E hpt hr hg) h_fraction_text, PySem.W.mg_of X G a_fraction_text, k_fraction_text, b_fraction_text⟩
  have C_read_fraction : Cal l.prog w K mg base L2.CX0 3 "read_fraction" ad_read_fraction _ ["text"] (spP K 1 f_read_fraction) := ⟨fnP F_read_fraction sc_read_fraction (fun b cdv A outer s H E hpt hr hg => d_read_fraction C_is_fraction C_read_integer y_isinstance y_len y_str m_STROKE b cdv A outer s H E hpt hr hg) h_read_fraction, PySem.W.mg_of X G a_read_fraction, k_read_fraction, b_read_fraction⟩
  have C_base_of : Cal l.prog w K mg base L2.CX0 2 "base_of" ad_base_of _ ["numbers"] (spP K 1 f_base_of) := ⟨fnP F_base_of sc_base_of (fun b cdv A outer s H E hpt hr hg => d_base_of C_common y_enumerate y_sorted b cdv A outer s H E hpt hr hg) h_base_of, PySem.W.mg_of X G a_base_of, k_base_of, b_base_of⟩
  have C_exponent_in : Cal l.prog w K mg base L2.CX0 1 "exponent_in" ad_exponent_in _ ["number", "part"] (spP K 2 f_exponent_in) := ⟨fnP F_exponent_in sc_exponent_in (fun b cdv A outer s H E hpt hr hg => d_exponent_in  b cdv A outer s H E hpt hr hg) h_exponent_in, PySem.W.mg_of X G a_exponent_in, k_exponent_in, b_exponent_in⟩
  have C_exponents_by : Cal l.prog w K mg base L2.CX0 2 "exponents_by" ad_exponents_by _ ["base", "number"] (spP K 2 f_exponents_by) := ⟨fnP F_exponents_by sc_exponents_by (fun b cdv A outer s H E hpt hr hg => d_exponents_by C_exponent_in y_tuple b cdv A outer s H E hpt hr hg) h_exponents_by, PySem.W.mg_of X G a_exponents_by, k_exponents_by, b_exponents_by⟩
  have C_check_based : Cal l.prog w K mg base L2.CX0 4 "check_based" ad_check_based _ ["numbers"] (spP K 1 f_check_based) := ⟨fnP F_check_based sc_check_based (fun b cdv A outer s H E hpt hr hg => d_check_based C_is_told_fraction y_all y_isinstance y_len y_tuple m_MOST_BASED b cdv A outer s H E hpt hr hg) h_check_based, PySem.W.mg_of X G a_check_based, k_check_based, b_check_based⟩
  have C_coprime_base : Cal l.prog w K mg base L2.CX0 5 "coprime_base" ad_coprime_base _ ["numbers"] (spP K 1 f_coprime_base) := ⟨fnP F_coprime_base sc_coprime_base (fun b cdv A outer s H E hpt hr hg => d_coprime_base C_base_of C_check_based y_tuple b cdv A outer s H E hpt hr hg) h_coprime_base, PySem.W.mg_of X G a_coprime_base, k_coprime_base, b_coprime_base⟩
  have C_exponents_over : Cal l.prog w K mg base L2.CX0 4 "exponents_over" ad_exponents_over _ ["base", "number"] (spP K 2 f_exponents_over) := ⟨fnP F_exponents_over sc_exponents_over (fun b cdv A outer s H E hpt hr hg => d_exponents_over C_exponents_by C_is_told_fraction C_base_of C_is_integer y_all y_isinstance y_list y_tuple y_zip b cdv A outer s H E hpt hr hg) h_exponents_over, PySem.W.mg_of X G a_exponents_over, k_exponents_over, b_exponents_over⟩
  have C_law_common : Cal l.prog w K mg base L2.CX0 1 "_law_common" ad_law_common _ ["one", "other"] (spP K 2 f_law_common) := ⟨fnP F_law_common sc_law_common (fun b cdv A outer s H E hpt hr hg => d_law_common y_abs y_int b cdv A outer s H E hpt hr hg) h_law_common, PySem.W.mg_of X G a_law_common, k_law_common, b_law_common⟩
  have C_law_take : Cal l.prog w K mg base L2.CX0 1 "_law_take" ad_law_take _ ["pot", "upto"] (spD K 1 f_law_take) := ⟨fnD F_law_take sc_law_take rfl (fun b cdv A outer s H E hr hg => d_law_take y_int b cdv A outer s H E hr hg) h_law_take, PySem.W.mg_of X G a_law_take, k_law_take, b_law_take⟩
  have C_law_of : Cal l.prog w K mg base L2.CX0 2 "_law_of" ad_law_of _ ["pot", "some"] (spD K 1 f_law_of) := ⟨fnD F_law_of sc_law_of rfl (fun b cdv A outer s H E hr hg => d_law_of C_law_take y_len b cdv A outer s H E hr hg) h_law_of, PySem.W.mg_of X G a_law_of, k_law_of, b_law_of⟩
  have C_law_reduced : Cal l.prog w K mg base L2.CX0 1 "_law_reduced" ad_law_reduced _ ["top", "low"] (spP K 2 f_law_reduced) := ⟨fnP F_law_reduced sc_law_reduced (fun b cdv A outer s H E hpt hr hg => d_law_reduced y_abs y_int b cdv A outer s H E hpt hr hg) h_law_reduced, PySem.W.mg_of X G a_law_reduced, k_law_reduced, b_law_reduced⟩
  have C_law_some : Cal l.prog w K mg base L2.CX0 2 "_law_some" ad_law_some _ ["pot", "some", "amount"] (spD K 2 f_law_some) := ⟨fnD F_law_some sc_law_some rfl (fun b cdv A outer s H E hr hg => d_law_some C_law_take y_len y_list y_range b cdv A outer s H E hr hg) h_law_some, PySem.W.mg_of X G a_law_some, k_law_some, b_law_some⟩
  have C_law_cells : Cal l.prog w K mg base L2.CX0 1 "_law_cells" ad_law_cells _ ["script", "limit"] (spS K 1 f_law_cells) := ⟨fnS F_law_cells sc_law_cells rfl (fun b a ns cdv A outer s H E hpt hS hr hg => d_law_cells y_len y_list y_max y_min y_range b a ns cdv A outer s H E hpt hS hr hg) h_law_cells, PySem.W.mg_of X G a_law_cells, k_law_cells, b_law_cells⟩
  have C_law_pot : Cal l.prog w K mg base L2.CX0 1 "_law_pot" ad_law_pot _ ["script", "place"] (spS K 1 f_law_pot) := ⟨fnS F_law_pot sc_law_pot rfl (fun b a ns cdv A outer s H E hpt hS hr hg => d_law_pot y_abs y_int y_len y_sum b a ns cdv A outer s H E hpt hS hr hg) h_law_pot, PySem.W.mg_of X G a_law_pot, k_law_pot, b_law_pot⟩
  have C_law_base : Cal l.prog w K mg base L2.CX0 2 "_law_base" ad_law_base _ ["numbers"] (spP K 1 f_law_base) := ⟨fnP F_law_base sc_law_base (fun b cdv A outer s H E hpt hr hg => d_law_base C_law_common y_int y_range y_sorted y_tuple b cdv A outer s H E hpt hr hg) h_law_base, PySem.W.mg_of X G a_law_base, k_law_base, b_law_base⟩
  have C_law_exponents : Cal l.prog w K mg base L2.CX0 1 "_law_exponents" ad_law_exponents _ ["base", "number"] (spP K 2 f_law_exponents) := ⟨fnP F_law_exponents sc_law_exponents (fun b cdv A outer s H E hpt hr hg => d_law_exponents y_int y_range b cdv A outer s H E hpt hr hg) h_law_exponents, PySem.W.mg_of X G a_law_exponents, k_law_exponents, b_law_exponents⟩
  have C_law_lot : Cal l.prog w K mg base L2.CX0 3 "_law_lot" ad_law_lot _ ["pot"] (spD K 0 f_law_lot) := ⟨fnD F_law_lot sc_law_lot rfl (fun b cdv A outer s H E hr hg => d_law_lot C_law_reduced C_law_of C_law_take y_range b cdv A outer s H E hr hg) h_law_lot, PySem.W.mg_of X G a_law_lot, k_law_lot, b_law_lot⟩
  have C_law_are_strings_right : Cal l.prog w K mg base L2.CX0 4 "_law_are_strings_right" ad_law_are_strings_right _ ["pot"] (spD K 0 f_law_are_strings_right) := ⟨fnD F_law_are_strings_right sc_law_are_strings_right rfl (fun b cdv A outer s H E hr hg => d_law_are_strings_right C_fraction_text C_read_fraction C_law_of C_law_take C_law_reduced y_int y_str b cdv A outer s H E hr hg) h_law_are_strings_right, PySem.W.mg_of X G a_law_are_strings_right, k_law_are_strings_right, b_law_are_strings_right⟩
  have C_law_right : Cal l.prog w K mg base L2.CX0 6 "_law_right" ad_law_right _ ["pot"] (spD K 0 f_law_right) := ⟨fnD F_law_right sc_law_right rfl (fun b cdv A outer s H E hr hg => d_law_right C_exponents_over C_law_of C_law_exponents C_law_common C_law_some C_coprime_base C_law_base C_law_lot y_any y_enumerate y_int y_len y_list y_range y_repr y_sum y_tuple y_zip kb_coprime_base kb_exponents_over b cdv A outer s H E hr hg) h_law_right, PySem.W.mg_of X G a_law_right, k_law_right, b_law_right⟩
  exact fnS F_law sc_law rfl (fun b a ns cdv A outer s H E hpt hS hr hg => d_law C_law_right C_law_are_strings_right C_law_pot C_law_cells y_all y_range b a ns cdv A outer s H E hpt hS hr hg) h_law
end K20

set_option Elab.async false
set_option linter.all false
open PySem PySem.W PyProof.Rows
set_option maxRecDepth 100000 in
set_option maxHeartbeats 0 in
theorem PySem.Challenge.cw_howmuchdearer_k20_whole_numbers_and_base_holds : PySem.Challenge.rw_howmuchdearer_k20_whole_numbers_and_base.Holds := by
  w_on; o_law; k_head; (case hw => w_witness2)
  k_fill
  refine PL.walkG (l := PySem.Challenge.rw_howmuchdearer_k20_whole_numbers_and_base) (n := 63) (k := 7) (x := "script") (CX := L2.CX0) (Φ := K20.f_law) rfl (by decide) rfl ⟨rfl, by decide, by decide⟩ (fun w h Y => PySem.W.kIn_of Y) ?F (fun ns hl => ⟨rfl, hl, rfl⟩) (fun _ _ _ _ z => z)
  case F =>
    intro w mg fa h KX G hmg
    refine' K20.all_mk KX G hmg ?a_is_integer ?l_is_integer ?c_is_integer ?k_is_integer ?a_read_integer ?l_read_integer ?c_read_integer ?k_read_integer ?a_common ?l_common ?c_common ?k_common ?a_is_fraction ?l_is_fraction ?c_is_fraction ?k_is_fraction ?a_is_told_fraction ?l_is_told_fraction ?c_is_told_fraction ?k_is_told_fraction ?a_integer_text ?l_integer_text ?c_integer_text ?k_integer_text ?a_fraction_text ?l_fraction_text ?c_fraction_text ?k_fraction_text ?a_read_fraction ?l_read_fraction ?c_read_fraction ?k_read_fraction ?a_base_of ?l_base_of ?c_base_of ?k_base_of ?a_exponent_in ?l_exponent_in ?c_exponent_in ?k_exponent_in ?a_exponents_by ?l_exponents_by ?c_exponents_by ?k_exponents_by ?a_check_based ?l_check_based ?c_check_based ?k_check_based ?a_coprime_base ?l_coprime_base ?c_coprime_base ?k_coprime_base ?a_exponents_over ?l_exponents_over ?c_exponents_over ?k_exponents_over ?a_law_common ?l_law_common ?c_law_common ?k_law_common ?a_law_take ?l_law_take ?c_law_take ?k_law_take ?a_law_of ?l_law_of ?c_law_of ?k_law_of ?a_law_reduced ?l_law_reduced ?c_law_reduced ?k_law_reduced ?a_law_some ?l_law_some ?c_law_some ?k_law_some ?a_law_cells ?l_law_cells ?c_law_cells ?k_law_cells ?a_law_pot ?l_law_pot ?c_law_pot ?k_law_pot ?a_law_base ?l_law_base ?c_law_base ?k_law_base ?a_law_exponents ?l_law_exponents ?c_law_exponents ?k_law_exponents ?a_law_lot ?l_law_lot ?c_law_lot ?k_law_lot ?a_law_are_strings_right ?l_law_are_strings_right ?c_law_are_strings_right ?k_law_are_strings_right ?a_law_right ?l_law_right ?c_law_right ?k_law_right ?a_law ?l_law ?c_law ?k_law ?z_abs ?z_all ?z_any ?z_bool ?z_enumerate ?z_int ?z_isinstance ?z_len ?z_list ?z_max ?z_min ?z_range ?z_repr ?z_sorted ?z_str ?z_sum ?z_tuple ?z_zip ?g_BEYOND ?g_FIGURES ?g_MINUS ?g_MOST_BASED ?g_MOST_FIGURES ?g_PART ?g_STROKE ?g_gcd
    (case a_is_integer => k_is); (case l_is_integer => k_is); (case c_is_integer => k_is); (case k_is_integer => k_is)
    (case a_read_integer => k_is); (case l_read_integer => k_is); (case c_read_integer => k_is); (case k_read_integer => k_is)
    (case a_common => k_is); (case l_common => k_is); (case c_common => k_is); (case k_common => k_is)
    (case a_is_fraction => k_is); (case l_is_fraction => k_is); (case c_is_fraction => k_is); (case k_is_fraction => k_is)
    (case a_is_told_fraction => k_is); (case l_is_told_fraction => k_is); (case c_is_told_fraction => k_is); (case k_is_told_fraction => k_is)
    (case a_integer_text => k_is); (case l_integer_text => k_is); (case c_integer_text => k_is); (case k_integer_text => k_is)
    (case a_fraction_text => k_is); (case l_fraction_text => k_is); (case c_fraction_text => k_is); (case k_fraction_text => k_is)
    (case a_read_fraction => k_is); (case l_read_fraction => k_is); (case c_read_fraction => k_is); (case k_read_fraction => k_is)
    (case a_base_of => k_is); (case l_base_of => k_is); (case c_base_of => k_is); (case k_base_of => k_is)
    (case a_exponent_in => k_is); (case l_exponent_in => k_is); (case c_exponent_in => k_is); (case k_exponent_in => k_is)
    (case a_exponents_by => k_is); (case l_exponents_by => k_is); (case c_exponents_by => k_is); (case k_exponents_by => k_is)
    (case a_check_based => k_is); (case l_check_based => k_is); (case c_check_based => k_is); (case k_check_based => k_is)
    (case a_coprime_base => k_is); (case l_coprime_base => k_is); (case c_coprime_base => k_is); (case k_coprime_base => k_is)
    (case a_exponents_over => k_is); (case l_exponents_over => k_is); (case c_exponents_over => k_is); (case k_exponents_over => k_is)
    (case a_law_common => k_is); (case l_law_common => k_is); (case c_law_common => k_is); (case k_law_common => k_is)
    (case a_law_take => k_is); (case l_law_take => k_is); (case c_law_take => k_is); (case k_law_take => k_is)
    (case a_law_of => k_is); (case l_law_of => k_is); (case c_law_of => k_is); (case k_law_of => k_is)
    (case a_law_reduced => k_is); (case l_law_reduced => k_is); (case c_law_reduced => k_is); (case k_law_reduced => k_is)
    (case a_law_some => k_is); (case l_law_some => k_is); (case c_law_some => k_is); (case k_law_some => k_is)
    (case a_law_cells => k_is); (case l_law_cells => k_is); (case c_law_cells => k_is); (case k_law_cells => k_is)
    (case a_law_pot => k_is); (case l_law_pot => k_is); (case c_law_pot => k_is); (case k_law_pot => k_is)
    (case a_law_base => k_is); (case l_law_base => k_is); (case c_law_base => k_is); (case k_law_base => k_is)
    (case a_law_exponents => k_is); (case l_law_exponents => k_is); (case c_law_exponents => k_is); (case k_law_exponents => k_is)
    (case a_law_lot => k_is); (case l_law_lot => k_is); (case c_law_lot => k_is); (case k_law_lot => k_is)
    (case a_law_are_strings_right => k_is); (case l_law_are_strings_right => k_is); (case c_law_are_strings_right => k_is); (case k_law_are_strings_right => k_is)
    (case a_law_right => k_is); (case l_law_right => k_is); (case c_law_right => k_is); (case k_law_right => k_is)
    (case a_law => k_is); (case l_law => k_is); (case c_law => k_is); (case k_law => k_is)
    (case z_abs => k_is); (case z_all => k_is); (case z_any => k_is); (case z_bool => k_is)
    (case z_enumerate => k_is); (case z_int => k_is); (case z_isinstance => k_is); (case z_len => k_is)
    (case z_list => k_is); (case z_max => k_is); (case z_min => k_is); (case z_range => k_is)
    (case z_repr => k_is); (case z_sorted => k_is); (case z_str => k_is); (case z_sum => k_is)
    (case z_tuple => k_is); (case z_zip => k_is); (case g_BEYOND => k_is); (case g_FIGURES => k_is)
    (case g_MINUS => k_is); (case g_MOST_BASED => k_is); (case g_MOST_FIGURES => k_is); (case g_PART => k_is)
    (case g_STROKE => k_is); (case g_gcd => k_is)

