import PyProof.Rows.All
import Wide.All
import OpenK.AllK
import Wide.FinOn
import HandS.ForMost
import HandS.Exc
import HandS.ExcOwn
import HandS.WordsExc
import HandS.TryOnly
import HandS.Deep
import HandS.TupAny
import HandS.Style
import HandS.IsInst
import HandS.SortInts
import PySem.Challenge.RW_caseslive_k02_whole_verdicts_hold
set_option Elab.async false
set_option linter.all false
set_option maxRecDepth 100000
set_option maxHeartbeats 4000000
/-! Fx0: plain data D, how it lies in the abstract heap, what an expression or statement computes. -/
namespace Fx
open PySem PySem.Spec PyProof.Rows L2

inductive Oc (α : Type) where
  | st | ok (a : α) | ex (c : Str)
def bd {α β : Type} : Oc α → (α → Oc β) → Oc β
  | .st, _ => .st
  | .ok a, f => f a
  | .ex c, _ => .ex c
@[simp] theorem bd_ok {α β : Type} (a : α) (f : α → Oc β) : bd (.ok a) f = f a := id rfl
@[simp] theorem bd_st {α β : Type} (f : α → Oc β) : bd .st f = .st := id rfl
@[simp] theorem bd_ex {α β : Type} (c : Str) (f : α → Oc β) : bd (.ex c) f = .ex c := id rfl
def noex {α : Type} : Oc α → Oc α
  | .ex _ => .st
  | o => o
@[simp] theorem noex_ok {α : Type} (a : α) : noex (.ok a) = .ok a := id rfl
def chk {α : Type} (b : Bool) (o : Oc α) : Oc α := if b then o else .st
@[simp] theorem chk_true {α : Type} (o : Oc α) : chk true o = o := id rfl

inductive D where
  | non | bl (b : Bool) | int (i : Int) | str (x : Str)
  | lst (ds : List D) | tup (ds : List D) | fz (ds : List D)
  | obj (c : Str) (fs : List (Str × D))
  | ty (n : String)

section
variable (K : PySem.W.Frag) (mg : Str → Option Value)
mutual
inductive Rep (G : Hp) : V → D → Prop
  | non : Rep G .non .non
  | bl (b : Bool) : Rep G (.bl b) (.bl b)
  | int (i : Int) : Rep G (.int i) (.int i)
  | str (x : Str) : Rep G (.str x) (.str x)
  | ty (n : String) : Rep G (.ty n) (.ty n)
  | lst {a : Addr} {xs : List V} {ds : List D} : G a = some (.lst xs) → RepL G xs ds → Rep G (.ref a) (.lst ds)
  | tup {a : Addr} {xs : List V} {ds : List D} : SqT K G a xs → RepL G xs ds → Rep G (.ref a) (.tup ds)
  | fz {a : Addr} {xs : List V} {ds : List D} : SqL K G a xs → RepL G xs ds → Rep G (.ref a) (.fz ds)
  | obj {a C dx : Addr} {c : Str} {fs : List (Str × V)} {ds : List (Str × D)} : mg c = some (.ref C) → G a = some (.ins C dx fs) → RepF G fs ds → Rep G (.ref a) (.obj c ds)
inductive RepL (G : Hp) : List V → List D → Prop
  | nil : RepL G [] []
  | cons {v : V} {vs : List V} {d : D} {ds : List D} : Rep G v d → RepL G vs ds → RepL G (v :: vs) (d :: ds)
inductive RepF (G : Hp) : List (Str × V) → List (Str × D) → Prop
  | nil : RepF G [] []
  | cons {n : Str} {v : V} {vs : List (Str × V)} {d : D} {ds : List (Str × D)} : Rep G v d → RepF G vs ds → RepF G ((n, v) :: vs) ((n, d) :: ds)
end
end
variable {K : PySem.W.Frag} {mg : Str → Option Value}

theorem SqT.same {H H' : Hp} {a : Addr} {xs : List V} (e : Same H H') (h : SqT K H a xs) : SqT K H' a xs := by
  rcases h with (h | ⟨o, h⟩) | h
  · exact .inl (.inl (e _ _ h))
  · exact .inl (.inr ⟨o, e _ _ h⟩)
  · exact .inr h
mutual
theorem Rep.same {G G' : Hp} (e : Same G G') : ∀ {v : V} {d : D}, Rep K mg G v d → Rep K mg G' v d
  | _, _, .non => .non
  | _, _, .bl b => .bl b
  | _, _, .int i => .int i
  | _, _, .str x => .str x
  | _, _, .ty n => .ty n
  | _, _, .lst h r => .lst (e _ _ h) (RepL.same e r)
  | _, _, .tup h r => .tup (SqT.same e h) (RepL.same e r)
  | _, _, .fz h r => .fz (e.seq h) (RepL.same e r)
  | _, _, .obj m h r => .obj m (e _ _ h) (RepF.same e r)
theorem RepL.same {G G' : Hp} (e : Same G G') : ∀ {vs : List V} {ds : List D}, RepL K mg G vs ds → RepL K mg G' vs ds
  | _, _, .nil => .nil
  | _, _, .cons r t => .cons (Rep.same e r) (RepL.same e t)
theorem RepF.same {G G' : Hp} (e : Same G G') : ∀ {vs : List (Str × V)} {ds : List (Str × D)}, RepF K mg G vs ds → RepF K mg G' vs ds
  | _, _, .nil => .nil
  | _, _, .cons r t => .cons (Rep.same e r) (RepF.same e t)
end
section
variable {G : Hp}
theorem RepL.length : ∀ {vs : List V} {ds : List D}, RepL K mg G vs ds → vs.length = ds.length
  | _, _, .nil => rfl
  | _, _, .cons _ t => by simp [RepL.length t]
theorem RepL.get : ∀ {vs : List V} {ds : List D} {i : Nat} {d : D}, RepL K mg G vs ds → ds[i]? = some d → ∃ v, vs[i]? = some v ∧ Rep K mg G v d
  | _, _, i, _, .nil, e => by simp at e
  | _, _, 0, _, .cons r _, e => by simp at e; subst e; exact ⟨_, rfl, r⟩
  | _, _, i + 1, d, .cons _ t, e => by
    obtain ⟨u, h1, h2⟩ := RepL.get (i := i) (d := d) t (by simpa using e)
    exact ⟨u, by simpa using h1, h2⟩
theorem RepL.getV : ∀ {vs : List V} {ds : List D} {i : Nat} {v : V}, RepL K mg G vs ds → vs[i]? = some v → ∃ d, ds[i]? = some d ∧ Rep K mg G v d
  | _, _, i, _, .nil, e => by simp at e
  | _, _, 0, _, .cons r _, e => by simp at e; subst e; exact ⟨_, rfl, r⟩
  | _, _, i + 1, d, .cons _ t, e => by
    obtain ⟨u, h1, h2⟩ := RepL.getV (i := i) (v := d) t (by simpa using e)
    exact ⟨u, by simpa using h1, h2⟩
theorem RepL.append : ∀ {xs ys : List V} {ds es : List D}, RepL K mg G xs ds → RepL K mg G ys es → RepL K mg G (xs ++ ys) (ds ++ es)
  | _, _, _, _, .nil, s => s
  | _, _, _, _, .cons r t, s => .cons r (RepL.append t s)
theorem RepL.take : ∀ {xs : List V} {ds : List D} (n : Nat), RepL K mg G xs ds → RepL K mg G (xs.take n) (ds.take n)
  | _, _, 0, _ => .nil
  | _, _, _ + 1, .nil => .nil
  | _, _, n + 1, .cons r t => .cons r (RepL.take n t)
theorem RepL.drop : ∀ {xs : List V} {ds : List D} (n : Nat), RepL K mg G xs ds → RepL K mg G (xs.drop n) (ds.drop n)
  | _, _, 0, r => r
  | _, _, _ + 1, .nil => .nil
  | _, _, n + 1, .cons _ t => RepL.drop n t
theorem RepL.reverse {xs : List V} {ds : List D} (h : RepL K mg G xs ds) : RepL K mg G xs.reverse ds.reverse := by
  induction xs generalizing ds with
  | nil => cases h; exact .nil
  | cons x xs ih => cases h with | cons r t => rw [List.reverse_cons, List.reverse_cons]; exact (ih t).append (.cons r .nil)
theorem RepF.look : ∀ {fs : List (Str × V)} {ds : List (Str × D)} {n : Str} {d : D}, RepF K mg G fs ds → ds.lookup n = some d → ∃ v, fs.lookup n = some v ∧ Rep K mg G v d
  | _, _, n, _, .nil, e => by simp at e
  | _, _, n, d, .cons (n := m) r t, e => by
    by_cases h : n = m
    · subst h
      simp at e
      subst e
      exact ⟨_, by simp, r⟩
    · have hb : (n == m) = false := beq_eq_false_iff_ne.mpr h
      rw [List.lookup_cons, hb] at e
      obtain ⟨v, h1, h2⟩ := RepF.look t e
      exact ⟨v, by rw [List.lookup_cons, hb]; exact h1, h2⟩
theorem RepF.length : ∀ {vs : List (Str × V)} {ds : List (Str × D)}, RepF K mg G vs ds → vs.length = ds.length
  | _, _, .nil => rfl
  | _, _, .cons _ t => by simp [RepF.length t]
end

/-! ### heaps: G what is visible, H all that is tracked -/
structure Ext (G H G' H' : Hp) : Prop where
  hh : Same H H'
  gg : Same G G'
  gh : Same G' H'
  nc : ∀ a o, H a = some o → G a = none → G' a = none
theorem Ext.refl {G H : Hp} (s : Same G H) : Ext G H G H := ⟨.refl _, .refl _, s, fun _ _ _ h => h⟩
theorem Ext.trans {G H G1 H1 G2 H2 : Hp} (a : Ext G H G1 H1) (b : Ext G1 H1 G2 H2) : Ext G H G2 H2 :=
  ⟨a.hh.trans b.hh, a.gg.trans b.gg, b.gh, fun c o h g => b.nc c o (a.hh _ _ h) (a.nc c o h g)⟩
theorem Ext.new {G H : Hp} {p : Addr} {o : HO} (s : Same G H) (hp : H p = none) : Ext G H (upd G p o) (upd H p o) := by
  have gp : G p = none := s.free hp
  refine ⟨fun b u e => by rw [upd_ne (ne_of_none e hp)]; exact e, fun b u e => by rw [upd_ne (ne_of_none e gp)]; exact e, fun b u e => ?_, fun b u h g => ?_⟩
  · by_cases hb : b = p
    · subst hb; rw [upd_same] at e ⊢; exact e
    · rw [upd_ne hb] at e ⊢; exact s _ _ e
  · rw [upd_ne (ne_of_none h hp)]; exact g
theorem Ext.newH {G H : Hp} {p : Addr} {o : HO} (s : Same G H) (hp : H p = none) : Ext G H G (upd H p o) :=
  ⟨fun b u e => by rw [upd_ne (ne_of_none e hp)]; exact e, .refl _, fun b u e => by rw [upd_ne (ne_of_none (s _ _ e) hp)]; exact s _ _ e, fun _ _ _ g => g⟩

/-! ### slots -/
inductive Sl where
  | no | sh (d : D) | ow (d : D)
abbrev En := List Sl

def OwAt (K : PySem.W.Frag) (mg : Str → Option Value) (G H : Hp) (a : Addr) : D → Prop
  | .lst ds => ∃ xs, H a = some (.lst xs) ∧ RepL K mg G xs ds
  | .obj c ds => ∃ C dx fs, mg c = some (.ref C) ∧ H a = some (.ins C dx fs) ∧ RepF K mg G fs ds
  | _ => False
theorem OwAt.ex {G H : Hp} {a : Addr} : ∀ {d : D}, OwAt K mg G H a d → ∃ o, H a = some o
  | .lst _, ⟨_, h, _⟩ => ⟨_, h⟩
  | .obj _ _, ⟨_, _, _, _, h, _⟩ => ⟨_, h⟩
theorem OwAt.same {G H G' H' : Hp} {a : Addr} (g : Same G G') (h : ∀ o, H a = some o → H' a = some o) : ∀ {d : D}, OwAt K mg G H a d → OwAt K mg G' H' a d
  | .lst _, ⟨xs, e, r⟩ => ⟨xs, h _ e, r.same g⟩
  | .obj _ _, ⟨C, dx, fs, m, e, r⟩ => ⟨C, dx, fs, m, h _ e, r.same g⟩
theorem OwAt.rep {G H G' : Hp} {a : Addr} (g : Same G G') (h : ∀ o, H a = .some o → G' a = .some o) : ∀ {d : D}, OwAt K mg G H a d → Rep K mg G' (.ref a) d
  | .lst _, ⟨xs, e, r⟩ => .lst (h _ e) (r.same g)
  | .obj _ _, ⟨C, dx, fs, m, e, r⟩ => .obj m (h _ e) (r.same g)

def SlOk (K : PySem.W.Frag) (mg : Str → Option Value) (G H : Hp) (o : Option V) : Sl → Prop
  | .no => True
  | .sh d => ∃ v, o = some v ∧ Rep K mg G v d
  | .ow d => ∃ a, o = some (.ref a) ∧ G a = none ∧ OwAt K mg G H a d

structure Rel (K : PySem.W.Frag) (mg : Str → Option Value) (G H : Hp) (ρ : En) (σ : L2.St) : Prop where
  sub : Same G H
  len : σ.length = ρ.length
  at_ : ∀ (i : Nat) (s : Sl) (o : Option V), ρ[i]? = some s → σ[i]? = some o → SlOk K mg G H o s
  apart : ∀ (i j : Nat) (a : Addr) (d e : D), ρ[i]? = some (.ow d) → ρ[j]? = some (.ow e) → σ[i]? = some (some (.ref a)) → σ[j]? = some (some (.ref a)) → i = j

theorem SlOk.ext {G H G' H' : Hp} {o : Option V} (x : Ext G H G' H') : ∀ {s : Sl}, SlOk K mg G H o s → SlOk K mg G' H' o s
  | .no, _ => trivial
  | .sh d, ⟨v, e, r⟩ => ⟨v, e, r.same x.gg⟩
  | .ow d, ⟨a, e, g, r⟩ => by
    obtain ⟨u, hu⟩ := r.ex
    exact ⟨a, e, x.nc a u hu g, r.same x.gg fun o q => x.hh _ _ q⟩
theorem Rel.ext {G H G' H' : Hp} {ρ : En} {σ : L2.St} (R : Rel K mg G H ρ σ) (x : Ext G H G' H') : Rel K mg G' H' ρ σ :=
  ⟨x.gh, R.len, fun i s o h1 h2 => (R.at_ i s o h1 h2).ext x, R.apart⟩
theorem Rel.get {G H : Hp} {ρ : En} {σ : L2.St} (R : Rel K mg G H ρ σ) {i : Nat} {s : Sl} (h : ρ[i]? = some s) : ∃ o, σ[i]? = some o ∧ SlOk K mg G H o s := by
  have hi : i < ρ.length := (List.getElem?_eq_some_iff.mp h).1
  have hs : i < σ.length := by rw [R.len]; exact hi
  exact ⟨σ[i], List.getElem?_eq_getElem hs, R.at_ i s _ h (List.getElem?_eq_getElem hs)⟩
theorem Rel.set {G H : Hp} {ρ : En} {σ : L2.St} (R : Rel K mg G H ρ σ) (i : Nat) {v : V} {d : D} (r : Rep K mg G v d) : Rel K mg G H (ρ.set i (.sh d)) (σ.set i (some v)) := by
  refine ⟨R.sub, by simp [R.len], fun j s o h1 h2 => ?_, fun j k a d' e' h1 h2 h3 h4 => ?_⟩
  · by_cases hj : i = j
    · subst hj
      have hi : i < (ρ.set i (.sh d)).length := (List.getElem?_eq_some_iff.mp h1).1
      have hr : i < ρ.length := by simpa using hi
      rw [List.getElem?_set_self hr] at h1
      rw [List.getElem?_set_self (by rw [R.len]; exact hr)] at h2
      cases h1; cases h2
      exact ⟨v, rfl, r⟩
    · rw [List.getElem?_set_ne hj] at h1 h2
      exact R.at_ j s o h1 h2
  · have nj : ∀ {m : Nat} {y : D}, (ρ.set i (.sh d))[m]? = some (.ow y) → i ≠ m := fun {m y} h e => by
      subst e
      have hi : i < (ρ.set i (.sh d)).length := (List.getElem?_eq_some_iff.mp h).1
      rw [List.getElem?_set_self (by simpa using hi)] at h
      cases h
    have n1 := nj h1
    have n2 := nj h2
    rw [List.getElem?_set_ne n1] at h1 h3
    rw [List.getElem?_set_ne n2] at h2 h4
    exact R.apart j k a d' e' h1 h2 h3 h4
theorem Rel.setO {G H : Hp} {ρ : En} {σ : L2.St} (R : Rel K mg G H ρ σ) (i : Nat) {p : Addr} {d : D} (g : G p = none) (r : OwAt K mg G H p d)
    (new : ∀ (j : Nat) (e : D), ρ[j]? = some (.ow e) → σ[j]? ≠ some (some (.ref p))) : Rel K mg G H (ρ.set i (.ow d)) (σ.set i (some (.ref p))) := by
  refine ⟨R.sub, by simp [R.len], fun j s o h1 h2 => ?_, fun j k a d' e' h1 h2 h3 h4 => ?_⟩
  · by_cases hj : i = j
    · subst hj
      have hi : i < (ρ.set i (.ow d)).length := (List.getElem?_eq_some_iff.mp h1).1
      have hr : i < ρ.length := by simpa using hi
      rw [List.getElem?_set_self hr] at h1
      rw [List.getElem?_set_self (by rw [R.len]; exact hr)] at h2
      cases h1; cases h2
      exact ⟨p, rfl, g, r⟩
    · rw [List.getElem?_set_ne hj] at h1 h2
      exact R.at_ j s o h1 h2
  · by_cases hj : i = j
    · by_cases hk : i = k
      · exact hj.symm.trans hk
      · subst hj
        have hi : i < σ.length := by simpa using (List.getElem?_eq_some_iff.mp h3).1
        rw [List.getElem?_set_self hi] at h3
        cases h3
        rw [List.getElem?_set_ne hk] at h2 h4
        exact absurd h4 (new k e' h2)
    · by_cases hk : i = k
      · subst hk
        have hi : i < σ.length := by simpa using (List.getElem?_eq_some_iff.mp h4).1
        rw [List.getElem?_set_self hi] at h4
        cases h4
        rw [List.getElem?_set_ne hj] at h1 h3
        exact absurd h3 (new j d' h1)
      · rw [List.getElem?_set_ne hj] at h1 h3
        rw [List.getElem?_set_ne hk] at h2 h4
        exact R.apart j k a d' e' h1 h2 h3 h4
theorem Rel.clear {G H : Hp} {ρ : En} {σ : L2.St} (R : Rel K mg G H ρ σ) (i : Nat) : Rel K mg G H (ρ.set i .no) (σ.set i none) := by
  refine ⟨R.sub, by simp [R.len], fun j s o h1 h2 => ?_, fun j k a d' e' h1 h2 h3 h4 => ?_⟩
  · by_cases hj : i = j
    · subst hj
      have hi : i < (ρ.set i .no).length := (List.getElem?_eq_some_iff.mp h1).1
      have hr : i < ρ.length := by simpa using hi
      rw [List.getElem?_set_self hr] at h1
      cases h1
      trivial
    · rw [List.getElem?_set_ne hj] at h1 h2
      exact R.at_ j s o h1 h2
  · have nj : ∀ {m : Nat} {y : D}, (ρ.set i .no)[m]? = some (.ow y) → i ≠ m := fun {m y} h e => by
      subst e
      have hi : i < (ρ.set i .no).length := (List.getElem?_eq_some_iff.mp h).1
      rw [List.getElem?_set_self (by simpa using hi)] at h
      cases h
    have n1 := nj h1
    have n2 := nj h2
    rw [List.getElem?_set_ne n1] at h1 h3
    rw [List.getElem?_set_ne n2] at h2 h4
    exact R.apart j k a d' e' h1 h2 h3 h4
def freeze (i : Nat) (ρ : En) : En := match ρ[i]? with
  | some (.ow d) => ρ.set i (.sh d)
  | _ => ρ
theorem Rel.freeze {G H : Hp} {ρ : En} {σ : L2.St} (R : Rel K mg G H ρ σ) (i : Nat) {d : D} (h : ρ[i]? = some (.ow d)) :
    ∃ a G', σ[i]? = some (some (.ref a)) ∧ G a = none ∧ (∃ o, H a = some o ∧ G' = upd G a o) ∧ Rep K mg G' (.ref a) d ∧ Rel K mg G' H (ρ.set i (.sh d)) σ := by
  obtain ⟨o, ho, a, rfl, ga, ow⟩ := R.get h
  obtain ⟨u, hu⟩ := ow.ex
  have gg : Same G (upd G a u) := fun b x e => by rw [upd_ne (ne_of_none e ga)]; exact e
  have gh : Same (upd G a u) H := fun b x e => by
    by_cases hb : b = a
    · subst hb; rw [upd_same] at e; rw [hu]; exact e
    · rw [upd_ne hb] at e; exact R.sub _ _ e
  have rp : Rep K mg (upd G a u) (.ref a) d := ow.rep gg fun o q => by rw [hu] at q; cases q; exact upd_same
  refine ⟨a, upd G a u, ho, ga, ⟨u, hu, rfl⟩, rp, ⟨gh, by simp [R.len], fun j s o' h1 h2 => ?_, fun j k b d' e' h1 h2 h3 h4 => ?_⟩⟩
  · by_cases hj : i = j
    · subst hj
      rw [List.getElem?_set_self (List.getElem?_eq_some_iff.mp h).1] at h1
      cases h1
      rw [ho] at h2; cases h2
      exact ⟨_, rfl, rp⟩
    · rw [List.getElem?_set_ne hj] at h1
      have q := R.at_ j s o' h1 h2
      cases s with
      | no => trivial
      | sh d' => obtain ⟨v, e, r⟩ := q; exact ⟨v, e, r.same gg⟩
      | ow d' =>
        obtain ⟨b, e, gb, r⟩ := q
        subst e
        refine ⟨b, rfl, ?_, r.same gg fun o q => q⟩
        rw [upd_ne fun z => hj (R.apart i j a d d' h h1 ho (by rw [h2, z]))]
        exact gb
  · have nj : ∀ {m : Nat} {y : D}, (ρ.set i (.sh d))[m]? = some (.ow y) → i ≠ m := fun {m y} h e => by
      subst e
      have hi : i < (ρ.set i (.sh d)).length := (List.getElem?_eq_some_iff.mp h).1
      rw [List.getElem?_set_self (by simpa using hi)] at h
      cases h
    have n1 := nj h1
    have n2 := nj h2
    rw [List.getElem?_set_ne n1] at h1
    rw [List.getElem?_set_ne n2] at h2
    exact R.apart j k b d' e' h1 h2 h3 h4

/-! ### what an expression computes -/
def PostE (K : PySem.W.Frag) (mg : Str → Option Value) (W : XK) (G H : Hp) (Q : VK) : Oc D → Prop
  | .st => False
  | .ok d => ∀ v G' H', Ext G H G' H' → Rep K mg G' v d → Q v H'
  | .ex c => ∀ C G' H', Ext G H G' H' → mg c = some (.ref C) → W (.ref C) none H'
def tE (K : PySem.W.Frag) (mg : Str → Option Value) (W : XK) (f : En → Oc D) : TE := fun σ H Q => ∃ G ρ, Rel K mg G H ρ σ ∧ PostE K mg W G H Q (f ρ)
def PostQ (K : PySem.W.Frag) (mg : Str → Option Value) (W : XK) (G H : Hp) (Q : VK) : Oc D → Prop
  | .st => False
  | .ok d => ∀ v G' H', Ext G H G' H' → (Rep K mg G' v d ∨ ∃ a, v = .ref a ∧ G' a = none ∧ OwAt K mg G' H' a d) → Q v H'
  | .ex c => ∀ C G' H', Ext G H G' H' → mg c = some (.ref C) → W (.ref C) none H'
def tQ (K : PySem.W.Frag) (mg : Str → Option Value) (W : XK) (f : En → Oc D) : TE := fun σ H Q => ∃ G ρ, Rel K mg G H ρ σ ∧ PostQ K mg W G H Q (f ρ)
def PostF (K : PySem.W.Frag) (mg : Str → Option Value) (W : XK) (G H : Hp) (Q : VK) : Oc D → Prop
  | .st => False
  | .ok d => ∀ a G' H', Ext G H G' H' → H a = none → G' a = none → OwAt K mg G' H' a d → Q (.ref a) H'
  | .ex c => ∀ C G' H', Ext G H G' H' → mg c = some (.ref C) → W (.ref C) none H'
def tF (K : PySem.W.Frag) (mg : Str → Option Value) (W : XK) (f : En → Oc D) : TE := fun σ H Q => ∃ G ρ, Rel K mg G H ρ σ ∧ PostF K mg W G H Q (f ρ)
def PostA (K : PySem.W.Frag) (mg : Str → Option Value) (W : XK) (G H : Hp) (Q : List V → Hp → Prop) : Oc (List D) → Prop
  | .st => False
  | .ok ds => ∀ vs G' H', Ext G H G' H' → RepL K mg G' vs ds → Q vs H'
  | .ex c => ∀ C G' H', Ext G H G' H' → mg c = some (.ref C) → W (.ref C) none H'
def tA (K : PySem.W.Frag) (mg : Str → Option Value) (W : XK) (f : En → Oc (List D)) : TA := fun σ H Q => ∃ G ρ, Rel K mg G H ρ σ ∧ PostA K mg W G H Q (f ρ)
def PostT (K : PySem.W.Frag) (mg : Str → Option Value) (W : XK) (G H : Hp) (Q : Bool → Hp → Prop) : Oc Bool → Prop
  | .st => False
  | .ok b => ∀ G' H', Ext G H G' H' → Q b H'
  | .ex c => ∀ C G' H', Ext G H G' H' → mg c = some (.ref C) → W (.ref C) none H'
def tT (K : PySem.W.Frag) (mg : Str → Option Value) (W : XK) (f : En → Oc Bool) : TT := fun σ H Q => ∃ G ρ, Rel K mg G H ρ σ ∧ PostT K mg W G H Q (f ρ)

theorem PostE.imp {W : XK} {G H G1 H1 : Hp} {Q Q' : VK} {o : Oc D} (x : Ext G H G1 H1) (h : PostE K mg W G H Q o) (q : ∀ v H, Q v H → Q' v H) : PostE K mg W G1 H1 Q' o := by
  cases o with
  | st => exact h
  | ok d => exact fun v G' H' e r => q _ _ (h v G' H' (x.trans e) r)
  | ex c => exact fun C G' H' e m => h C G' H' (x.trans e) m

abbrev SE (X : Cx) (W : XK) (e : Expr) (f : En → Oc D) : Prop := PE X e (tE X.K X.mg W f)
abbrev SQ (X : Cx) (W : XK) (e : Expr) (f : En → Oc D) : Prop := PE X e (tQ X.K X.mg W f)
abbrev SF (X : Cx) (W : XK) (e : Expr) (f : En → Oc D) : Prop := PE X e (tF X.K X.mg W f)
abbrev SA (X : Cx) (W : XK) (es : List Expr) (f : En → Oc (List D)) : Prop := PA X es (tA X.K X.mg W f)
abbrev STT (X : Cx) (W : XK) (e : Expr) (f : En → Oc Bool) : Prop := PT X e (tT X.K X.mg W f)
abbrev SW (X : Cx) (W : XK) (e : Expr) (f : En → Oc Bool) : Prop := PW X e (tT X.K X.mg W f)

theorem PE.weak {X : Cx} {e : Expr} {t u : TE} (h : PE X e t) (w : ∀ σ H Q, u σ H Q → t σ H Q) : PE X e u := ⟨fun pins s σ H Q I q => h.run pins s σ H Q I (w _ _ _ q)⟩
theorem PA.weak {X : Cx} {e : List Expr} {t u : TA} (h : PA X e t) (w : ∀ σ H Q, u σ H Q → t σ H Q) : PA X e u := ⟨fun pos pins s σ H Q I q => h.run pos pins s σ H Q I (w _ _ _ q)⟩
theorem PT.weak {X : Cx} {e : Expr} {t u : TT} (h : PT X e t) (w : ∀ σ H Q, u σ H Q → t σ H Q) : PT X e u := ⟨fun pins s σ H Q I q => h.run pins s σ H Q I (w _ _ _ q)⟩
theorem PW.weak {X : Cx} {e : Expr} {t u : TT} (h : PW X e t) (w : ∀ σ H Q, u σ H Q → t σ H Q) : PW X e u := ⟨fun whole pins s σ H Q I q => h.run whole pins s σ H Q I (w _ _ _ q)⟩
theorem PS.weak {X : Cx} {e : Stmt} {t u : TS} (h : PS X e t) (w : ∀ D σ H, u D σ H → t D σ H) : PS X e u := ⟨fun pins s σ H D I q => h.run pins s σ H D I (w _ _ _ q)⟩
theorem PSs.weak {X : Cx} {e : List Stmt} {t u : TS} (h : PSs X e t) (w : ∀ D σ H, u D σ H → t D σ H) : PSs X e u := ⟨fun pins s σ H D I q => h.run pins s σ H D I (w _ _ _ q)⟩

structure Ctx (X : Cx) (W : XK) : Prop where
  calm : X.calm = true
  nd : X.N.Nodup
  pass : Passes (L2.CX X.prog X.w) X W
  units : X.A.units + 65 < cLine

section
variable {X : Cx} {W : XK} {a b c : Expr} {e : Expr} {es : List Expr} {f g h : En → Oc D} {pos : Pos}

/-! ### from one judgement to another -/
theorem SE.toQ (h : SE X W e f) : SQ X W e f := PE.weak h fun σ H Q ⟨G, ρ, R, p⟩ => by
  refine ⟨G, ρ, R, ?_⟩
  revert p
  cases f ρ with
  | st => exact id
  | ok d => exact fun p v G' H' x r => p v G' H' x (.inl r)
  | ex c => exact id
theorem SF.toE (h : SF X W e f) : SE X W e f := PE.weak h fun σ H Q ⟨G, ρ, R, p⟩ => by
  refine ⟨G, ρ, R, ?_⟩
  revert p
  cases f ρ with
  | st => exact id
  | ok d =>
    intro p a G' H' x ha ga ow
    obtain ⟨u, hu⟩ := ow.ex
    have gg : Same G' (upd G' a u) := fun b o e => by rw [upd_ne (ne_of_none e ga)]; exact e
    refine p (.ref a) (upd G' a u) H' ⟨x.hh, x.gg.trans gg, fun b o e => ?_, fun b o hb gb => ?_⟩ (ow.rep gg fun o q => by rw [hu] at q; cases q; exact upd_same)
    · by_cases hb : b = a
      · subst hb; rw [upd_same] at e; rw [hu]; exact e
      · rw [upd_ne hb] at e; exact x.gh _ _ e
    · rw [upd_ne (ne_of_none hb ha)]; exact x.nc b o hb gb
  | ex c => exact id

/-! ### names and constants -/
def cst (d : D) : En → Oc D := fun _ => .ok d
def vr (i : Nat) : En → Oc D := fun ρ => match ρ[i]? with | some (.sh d) => .ok d | _ => .st
def vo (i : Nat) : En → Oc D := fun ρ => match ρ[i]? with | some (.sh d) => .ok d | some (.ow d) => .ok d | _ => .st
theorem se_cst {v : V} {d : D} (h : PE X e (tC v)) (r : ∀ G, Rep X.K X.mg G v d) : SE X W e (cst d) := PE.weak h fun σ H Q ⟨G, ρ, R, p⟩ => p v G H (.refl R.sub) (r G)
theorem se_int {i j} : SE X W (.Constant (.int i) j pos) (cst (.int i)) := se_cst pe_int fun _ => .int i
theorem se_bl {i j} : SE X W (.Constant (.bool i) j pos) (cst (.bl i)) := se_cst pe_bl fun _ => .bl i
theorem se_non {j} : SE X W (.Constant .none j pos) (cst .non) := se_cst pe_non fun _ => .non
theorem se_str {i j} : SE X W (.Constant (.str i) j pos) (cst (.str i)) := se_cst pe_str fun _ => .str i
theorem se_var {i : Nat} {x : Str} (h : PE X (.Name x pos) (tVar i)) : SE X W (.Name x pos) (vr i) := PE.weak h fun σ H Q ⟨G, ρ, R, p⟩ => by
  revert p
  unfold vr
  cases q : ρ[i]? with
  | none => exact False.elim
  | some s =>
    cases s with
    | no => exact False.elim
    | ow d => exact False.elim
    | sh d =>
      intro p
      obtain ⟨o, ho, v, rfl, r⟩ := R.get q
      exact ⟨v, ho, p v G H (.refl R.sub) r⟩
theorem sq_var {i : Nat} {x : Str} (h : PE X (.Name x pos) (tVar i)) : SQ X W (.Name x pos) (vo i) := PE.weak h fun σ H Q ⟨G, ρ, R, p⟩ => by
  revert p
  unfold vo
  cases q : ρ[i]? with
  | none => exact False.elim
  | some s =>
    cases s with
    | no => exact False.elim
    | ow d =>
      intro p
      obtain ⟨o, ho, v, rfl, r⟩ := R.get q
      exact ⟨.ref v, ho, p _ G H (.refl R.sub) (.inr ⟨v, rfl, r⟩)⟩
    | sh d =>
      intro p
      obtain ⟨o, ho, v, rfl, r⟩ := R.get q
      exact ⟨v, ho, p v G H (.refl R.sub) (.inl r)⟩

/-! ### operations by values -/
def un (F : D → Oc D) (f : En → Oc D) : En → Oc D := fun ρ => bd (f ρ) F
def bi (F : D → D → Oc D) (f g : En → Oc D) : En → Oc D := fun ρ => bd (f ρ) fun x => bd (g ρ) fun y => F x y
def RepQ (K : PySem.W.Frag) (mg : Str → Option Value) (G H : Hp) (v : V) (d : D) : Prop := Rep K mg G v d ∨ ∃ a, v = .ref a ∧ G a = none ∧ OwAt K mg G H a d
theorem RepQ.ext {G H G' H' : Hp} {v : V} {d : D} (x : Ext G H G' H') : RepQ K mg G H v d → RepQ K mg G' H' v d
  | .inl r => .inl (r.same x.gg)
  | .inr ⟨a, e, g, r⟩ => by
    obtain ⟨u, hu⟩ := r.ex
    exact .inr ⟨a, e, x.nc a u hu g, r.same x.gg fun o q => x.hh _ _ q⟩
theorem RepQ.lst {G H : Hp} {v : V} {ds : List D} (s : Same G H) : RepQ K mg G H v (.lst ds) → ∃ a xs, v = .ref a ∧ H a = some (.lst xs) ∧ RepL K mg G xs ds
  | .inl (.lst h r) => ⟨_, _, rfl, s _ _ h, r⟩
  | .inr ⟨a, e, _, xs, h, r⟩ => ⟨a, xs, e, h, r⟩
theorem RepQ.tup {G H : Hp} {v : V} {ds : List D} (s : Same G H) : RepQ K mg G H v (.tup ds) → ∃ a xs, v = .ref a ∧ SqT K H a xs ∧ RepL K mg G xs ds
  | .inl (.tup h r) => ⟨_, _, rfl, SqT.same s h, r⟩
theorem RepQ.fz {G H : Hp} {v : V} {ds : List D} (s : Same G H) : RepQ K mg G H v (.fz ds) → ∃ a xs, v = .ref a ∧ SqL K H a xs ∧ RepL K mg G xs ds
  | .inl (.fz h r) => ⟨_, _, rfl, s.seq h, r⟩
def items : D → Option (List D)
  | .lst ds => some ds
  | .tup ds => some ds
  | .fz ds => some ds
  | _ => none
theorem RepQ.seq {G H : Hp} {v : V} {d : D} {ds : List D} (s : Same G H) (r : RepQ K mg G H v d) (h : items d = some ds) : ∃ a xs, v = .ref a ∧ (SqL K H a xs ∨ SqT K H a xs) ∧ RepL K mg G xs ds := by
  cases d with
  | lst es => cases h; obtain ⟨a, xs, e, q, r⟩ := r.lst s; exact ⟨a, xs, e, .inl (SqL.of q), r⟩
  | tup es => cases h; obtain ⟨a, xs, e, q, r⟩ := r.tup s; exact ⟨a, xs, e, .inr q, r⟩
  | fz es => cases h; obtain ⟨a, xs, e, q, r⟩ := r.fz s; exact ⟨a, xs, e, .inl q, r⟩
  | _ => cases h

theorem se_op2 {r : R2} {F : D → D → Oc D} (rule : ∀ {ta tb : TE}, PE X a ta → PE X b tb → PE X e (tOp r ta tb))
    (hr : ∀ {G H x y d1 d2 Q}, Same G H → RepQ X.K X.mg G H x d1 → RepQ X.K X.mg G H y d2 → PostE X.K X.mg W G H Q (F d1 d2) → r x y H Q)
    (ha : SQ X W a f) (hb : SQ X W b g) : SE X W e (bi F f g) := PE.weak (rule ha hb) fun σ H Q ⟨G, ρ, R, p⟩ => by
  refine ⟨G, ρ, R, ?_⟩
  revert p
  unfold bi
  cases f ρ with
  | st => exact id
  | ex c => exact id
  | ok d1 =>
    intro p x G1 H1 x1 r1
    refine ⟨G1, ρ, R.ext x1, ?_⟩
    revert p
    simp only [bd_ok]
    cases g ρ with
    | st => exact id
    | ex c => exact fun p C G' H' e m => p C G' H' (x1.trans e) m
    | ok d2 =>
      intro p y G2 H2 x2 r2
      exact hr x2.gh (RepQ.ext x2 r1) r2 (PostE.imp (x1.trans x2) p fun _ _ q => q)
theorem sf_op2 {r : R2} {F : D → D → Oc D} (rule : ∀ {ta tb : TE}, PE X a ta → PE X b tb → PE X e (tOp r ta tb))
    (hr : ∀ {G H x y d1 d2 Q}, Same G H → RepQ X.K X.mg G H x d1 → RepQ X.K X.mg G H y d2 → PostF X.K X.mg W G H Q (F d1 d2) → r x y H Q)
    (ha : SQ X W a f) (hb : SQ X W b g) : SF X W e (bi F f g) := PE.weak (rule ha hb) fun σ H Q ⟨G, ρ, R, p⟩ => by
  refine ⟨G, ρ, R, ?_⟩
  revert p
  unfold bi
  cases f ρ with
  | st => exact id
  | ex c => exact id
  | ok d1 =>
    intro p x G1 H1 x1 r1
    refine ⟨G1, ρ, R.ext x1, ?_⟩
    revert p
    simp only [bd_ok]
    cases g ρ with
    | st => exact id
    | ex c => exact fun p C G' H' e m => p C G' H' (x1.trans e) m
    | ok d2 =>
      intro p y G2 H2 x2 r2
      refine hr x2.gh (RepQ.ext x2 r1) r2 ?_
      revert p
      simp only [bd_ok]
      have x12 := x1.trans x2
      cases F d1 d2 with
      | st => exact id
      | ex c => exact fun p C G' H' e m => p C G' H' (x12.trans e) m
      | ok d => exact fun p a G' H' x ha ga ow => p a G' H' (x12.trans x) (x12.hh.free ha) ga ow
end
end Fx

set_option Elab.async false
set_option linter.all false
set_option maxRecDepth 100000
set_option maxHeartbeats 4000000
/-! Fx1: operations. -/
namespace Fx
open PySem PySem.Spec PyProof.Rows L2
variable {K : PySem.W.Frag} {mg : Str → Option Value}

/-! ### plain data as PyData -/
mutual
def toPD : D → Option PyData
  | .non => some .none
  | .bl b => some (.bool b)
  | .int i => some (.int i)
  | .str x => some (.str x)
  | .lst ds => (toPDs ds).map .list
  | .tup ds => (toPDs ds).map .tuple
  | .fz ds => (toPDs ds).map .list
  | .obj _ _ => none
  | .ty _ => none
def toPDs : List D → Option (List PyData)
  | [] => some []
  | d :: ds => match toPD d, toPDs ds with
    | some p, some q => some (p :: q)
    | _, _ => none
end
mutual
theorem Rep.dp {G H : Hp} (s : Same G H) : ∀ {v : V} {d : D} {p : PyData}, Rep K mg G v d → toPD d = some p → Dp K H v p
  | _, .non, _, h, e => by cases h; cases e; exact .non
  | _, .bl b, _, h, e => by cases h; cases e; exact .bl b
  | _, .int i, _, h, e => by cases h; cases e; exact .int i
  | _, .str x, _, h, e => by cases h; cases e; exact .str x
  | _, .lst ds, p, h, e => by
    cases h with
    | lst hs r =>
      simp only [toPD] at e
      obtain ⟨q, hq, e2⟩ := Option.map_eq_some_iff.mp e
      subst e2
      exact .lst (SqL.of (s _ _ hs)) (RepL.dp s r hq)
  | _, .tup ds, p, h, e => by
    cases h with
    | tup hs r =>
      simp only [toPD] at e
      obtain ⟨q, hq, e2⟩ := Option.map_eq_some_iff.mp e
      subst e2
      exact .tup (SqT.same s hs) (RepL.dp s r hq)
  | _, .fz ds, p, h, e => by
    cases h with
    | fz hs r =>
      simp only [toPD] at e
      obtain ⟨q, hq, e2⟩ := Option.map_eq_some_iff.mp e
      subst e2
      exact .lst (s.seq hs) (RepL.dp s r hq)
theorem RepL.dp {G H : Hp} (s : Same G H) : ∀ {vs : List V} {ds : List D} {ps : List PyData}, RepL K mg G vs ds → toPDs ds = some ps → DpAll K H vs ps
  | _, [], _, h, e => by cases h; cases e; exact .nil
  | _, d :: ds, ps, h, e => by
    cases h with
    | cons r t =>
      simp only [toPDs] at e
      cases q1 : toPD d with
      | none => rw [q1] at e; cases e
      | some p =>
        cases q2 : toPDs ds with
        | none => rw [q1, q2] at e; cases e
        | some q =>
          rw [q1, q2] at e
          cases e
          exact .cons (Rep.dp s r q1) (RepL.dp s t q2)
end
theorem RepQ.dp {G H : Hp} (s : Same G H) {v : V} {d : D} {p : PyData} (h : RepQ K mg G H v d) (e : toPD d = some p) : Dp K H v p := by
  rcases h with h | ⟨a, rfl, ga, ow⟩
  · exact h.dp s e
  · cases d with
    | lst ds =>
      obtain ⟨xs, h1, r⟩ := ow
      simp only [toPD] at e
      obtain ⟨q, hq, e2⟩ := Option.map_eq_some_iff.mp e
      subst e2
      exact .lst (SqL.of h1) (r.dp s hq)
    | _ => first | exact ow.elim | cases e

/-! ### two-place operations as functions -/
def eqD (d e : D) : Oc D := match toPD d, toPD e with
  | some p, some q => chk (SeqAt.shaped p && SeqAt.shaped q) (.ok (.bl (PyData.eqv p q)))
  | _, _ => .st
def neD (d e : D) : Oc D := match toPD d, toPD e with
  | some p, some q => chk (SeqAt.shaped p && SeqAt.shaped q) (.ok (.bl (!PyData.eqv p q)))
  | _, _ => .st
def inB (d e : D) : Option Bool := match d, e with
  | .str x, .str y => some (!(Builtin.Str.occurrences y x 0 y.length 1).isEmpty)
  | d, e => match toPD d, toPD e with
    | some p, some (.list ps) => if SeqAt.shaped p && SeqAt.shaped (.list ps) then some (ps.any fun z => PyData.eqv z p) else none
    | some p, some (.tuple ps) => if SeqAt.shaped p && SeqAt.shaped (.tuple ps) then some (ps.any fun z => PyData.eqv z p) else none
    | _, _ => none
def inD (d e : D) : Oc D := match inB d e with
  | some b => .ok (.bl b)
  | none => .st
def ninD (d e : D) : Oc D := match inB d e with
  | some b => .ok (.bl (!b))
  | none => .st
def cmpD (p : Int → Int → Bool) (d e : D) : Oc D := match d, e with
  | .int i, .int j => .ok (.bl (p i j))
  | _, _ => .st
def isNon : D → Bool
  | .non => true
  | _ => false
def isN (d e : D) : Oc D := match e with
  | .non => .ok (.bl (isNon d))
  | _ => .st
def notN (d e : D) : Oc D := match e with
  | .non => .ok (.bl (!isNon d))
  | _ => .st
def addD (d e : D) : Oc D := match d, e with
  | .int i, .int j => .ok (.int (i + j))
  | .str x, .str y => chk (decide (x.length + y.length ≤ sizeLine)) (.ok (.str (x ++ y)))
  | .lst xs, .lst ys => chk (decide (xs.length + ys.length ≤ sizeLine)) (.ok (.lst (xs ++ ys)))
  | .tup xs, .tup ys => chk (decide (xs.length + ys.length ≤ sizeLine)) (.ok (.tup (xs ++ ys)))
  | _, _ => .st
def subD (d e : D) : Oc D := match d, e with
  | .int i, .int j => .ok (.int (i - j))
  | _, _ => .st
def mulD (d e : D) : Oc D := match d, e with
  | .int i, .int j => chk (decide ((-(2 ^ 64) < i ∧ i < 2 ^ 64) ∨ (-(2 ^ 64) < j ∧ j < 2 ^ 64))) (.ok (.int (i * j)))
  | .lst xs, .int k => chk (decide (-(2 ^ 63) ≤ k ∧ k < 2 ^ 63 ∧ xs.length * k.toNat ≤ sizeLine)) (.ok (.lst (List.replicate k.toNat xs).flatten))
  | _, _ => .st
def fdivD (d e : D) : Oc D := match d, e with
  | .int i, .int j => chk (decide (0 < j ∧ j < 1073741824)) (.ok (.int (i / j)))
  | _, _ => .st
def modD (d e : D) : Oc D := match d, e with
  | .int i, .int j => chk (decide (0 < j)) (.ok (.int (i % j)))
  | _, _ => .st
def powD (d e : D) : Oc D := match d, e with
  | .int i, .int j => chk (decide (0 ≤ j ∧ j ≤ 1000000 ∧ i.natAbs < 2 ^ 64)) (.ok (.int (i ^ j.toNat)))
  | _, _ => .st
def ixD (d e : D) : Oc D := match d, e with
  | .str z, .int i => chk (decide (z.length ≤ sizeLine)) (match atI z.cps.toList i with
    | some c => .ok (.str ⟨#[c]⟩)
    | none => .st)
  | d, .int i => match items d with
    | some ds => match atI ds i with
      | some x => .ok x
      | none => .st
    | none => .st
  | _, _ => .st

theorem chk_some {α : Type} {b : Bool} {o : Oc α} {P : Oc α → Prop} (hst : ¬ P .st) (h : P (chk b o)) : b = true ∧ P o := by
  cases b with
  | true => exact ⟨rfl, h⟩
  | false => exact absurd h hst
theorem repL_rep {G : Hp} {xs : List V} {ds : List D} (r : RepL K mg G xs ds) : ∀ k : Nat, RepL K mg G (List.replicate k xs).flatten (List.replicate k ds).flatten
  | 0 => .nil
  | k + 1 => by
    rw [List.replicate_succ, List.flatten_cons, List.replicate_succ, List.flatten_cons]
    exact r.append (repL_rep r k)

section
variable {X : Cx} {W : XK} {a b c e : Expr} {es : List Expr} {f g h : En → Oc D} {pos : Pos}
variable {G H : Hp} {x y : V} {d1 d2 : D} {Q : VK}

theorem PostE.here {d : D} {v : V} (h : PostE K mg W G H Q (.ok d)) (s : Same G H) (r : Rep K mg G v d) : Q v H := h v G H (.refl s) r

theorem dnil : ∀ {x : V}, Rep K mg G x .non → x = .non := fun h => by cases h; rfl
theorem PostE.chk {b : Bool} {o : Oc D} (h : PostE K mg W G H Q (chk b o)) : b = true ∧ PostE K mg W G H Q o := chk_some (P := PostE K mg W G H Q) (fun z => z) h
theorem PostF.chk {b : Bool} {o : Oc D} (h : PostF K mg W G H Q (Fx.chk b o)) : b = true ∧ PostF K mg W G H Q o := chk_some (P := PostF K mg W G H Q) (fun z => z) h
theorem PostE.newL {ds : List D} {xs : List V} (s : Same G H) (r : RepL K mg G xs ds) (h : PostE K mg W G H Q (.ok (.lst ds))) : ∀ p, H p = none → Q (.ref p) (upd H p (.lst xs)) := fun p hp => by
  have x := Ext.new (o := .lst xs) s hp
  exact h _ _ _ x (.lst upd_same (r.same x.gg))
theorem PostE.newT {ds : List D} {xs : List V} (s : Same G H) (r : RepL K mg G xs ds) (h : PostE K mg W G H Q (.ok (.tup ds))) : ∀ p, H p = none → Q (.ref p) (upd H p (.tup xs)) := fun p hp => by
  have x := Ext.new (o := .tup xs) s hp
  exact h _ _ _ x (.tup (SqT.of upd_same) (r.same x.gg))
theorem PostF.newL {ds : List D} {xs : List V} (s : Same G H) (r : RepL K mg G xs ds) (h : PostF K mg W G H Q (.ok (.lst ds))) : ∀ p, H p = none → Q (.ref p) (upd H p (.lst xs)) := fun p hp =>
  h p G _ (Ext.newH s hp) hp (s.free hp) ⟨xs, upd_same, r⟩

theorem se_eq (ha : SQ X W a f) (hb : SQ X W b g) (hu : X.A.units + 65 < cLine) : SE X W (.Compare a [.Eq] [b] pos) (bi eqD f g) :=
  se_op2 (fun ha hb => pe_cmpR (op_eqD (Nat.lt_of_succ_lt hu)) ha hb (nomark _)) (fun {G H x y d1 d2 Q} s r1 r2 p => by
    unfold eqD at p
    cases e1 : toPD d1 with
    | none => rw [e1] at p; exact p.elim
    | some p1 =>
      cases e2 : toPD d2 with
      | none => rw [e1, e2] at p; exact p.elim
      | some p2 =>
        rw [e1, e2] at p
        obtain ⟨c, q⟩ := p.chk
        rw [Bool.and_eq_true] at c
        exact ⟨p1, p2, r1.dp s e1, r2.dp s e2, c.1, c.2, q.here s (.bl _)⟩) ha hb
theorem se_ne (ha : SQ X W a f) (hb : SQ X W b g) (hu : X.A.units + 65 < cLine) : SE X W (.Compare a [.NotEq] [b] pos) (bi neD f g) :=
  se_op2 (fun ha hb => pe_cmpR (op_neD (Nat.lt_of_succ_lt hu)) ha hb (nomark _)) (fun {G H x y d1 d2 Q} s r1 r2 p => by
    unfold neD at p
    cases e1 : toPD d1 with
    | none => rw [e1] at p; exact p.elim
    | some p1 =>
      cases e2 : toPD d2 with
      | none => rw [e1, e2] at p; exact p.elim
      | some p2 =>
        rw [e1, e2] at p
        obtain ⟨c, q⟩ := p.chk
        rw [Bool.and_eq_true] at c
        exact ⟨p1, p2, r1.dp s e1, r2.dp s e2, c.1, c.2, q.here s (.bl _)⟩) ha hb
theorem op_inT (hu : X.A.units + 65 < cLine) : OpR X (compareOp .In) (fun x y H Q => ∃ d ds, Dp X.K H x d ∧ Dp X.K H y (.tuple ds) ∧ SeqAt.shaped d = true ∧ SeqAt.shaped (.tuple ds) = true ∧ Q (.bl (ds.any fun z => PyData.eqv z d)) H) := by
  intro pins s σ H x y v u Q I rx ry h
  obtain ⟨d, ds, hd, he, sd, se, q⟩ := h
  obtain ⟨as, r1⟩ := Dp.reads I d x v hd rx
  obtain ⟨bs, r2⟩ := Dp.reads I (.tuple ds) y u he ry
  exact SeqAt.in_tuple_reads r2 r1 (SeqAt.canLay_of_shaped (d := .list ds) se) (SeqAt.canLay_of_shaped sd) (room_in_shaped sd hu) ⟨.bl _, H, I, rfl, q⟩
theorem op_notInT (hu : X.A.units + 65 < cLine) : OpR X (compareOp .NotIn) (fun x y H Q => ∃ d ds, Dp X.K H x d ∧ Dp X.K H y (.tuple ds) ∧ SeqAt.shaped d = true ∧ SeqAt.shaped (.tuple ds) = true ∧ Q (.bl (!ds.any fun z => PyData.eqv z d)) H) := by
  intro pins s σ H x y v u Q I rx ry h
  obtain ⟨d, ds, hd, he, sd, se, q⟩ := h
  obtain ⟨as, r1⟩ := Dp.reads I d x v hd rx
  obtain ⟨bs, r2⟩ := Dp.reads I (.tuple ds) y u he ry
  exact SeqAt.notIn_tuple_reads r2 r1 (SeqAt.canLay_of_shaped (d := .list ds) se) (SeqAt.canLay_of_shaped sd) (room_in_shaped sd hu) ⟨.bl _, H, I, rfl, q⟩
end
end Fx

set_option Elab.async false
set_option linter.all false
set_option maxRecDepth 100000
set_option maxHeartbeats 4000000
/-! Fx2: the rules of the operations. -/
namespace Fx
open PySem PySem.Spec PyProof.Rows L2
variable {K : PySem.W.Frag} {mg : Str → Option Value}
theorem RepQ.int {G H : Hp} {v : V} {i : Int} : RepQ K mg G H v (.int i) → v = .int i
  | .inl h => by cases h; rfl
  | .inr ⟨_, _, _, z⟩ => z.elim
theorem RepQ.str {G H : Hp} {v : V} {i : Str} : RepQ K mg G H v (.str i) → v = .str i
  | .inl h => by cases h; rfl
  | .inr ⟨_, _, _, z⟩ => z.elim
theorem RepQ.bl {G H : Hp} {v : V} {i : Bool} : RepQ K mg G H v (.bl i) → v = .bl i
  | .inl h => by cases h; rfl
  | .inr ⟨_, _, _, z⟩ => z.elim
theorem RepQ.non {G H : Hp} {v : V} : RepQ K mg G H v .non → v = .non
  | .inl h => by cases h; rfl
  | .inr ⟨_, _, _, z⟩ => z.elim
theorem RepQ.ty {G H : Hp} {v : V} {n : String} : RepQ K mg G H v (.ty n) → v = .ty n
  | .inl h => by cases h; rfl
  | .inr ⟨_, _, _, z⟩ => z.elim
theorem RepQ.nonIff {G H : Hp} {v : V} {d : D} (r : RepQ K mg G H v d) : decide (v = .non) = isNon d := by
  rcases r with h | ⟨a, rfl, _, ow⟩
  · cases h <;> simp [isNon]
  · cases d with
    | non => exact ow.elim
    | _ => simp [isNon]
theorem RepQ.tupRep {G H : Hp} {v : V} {ds : List D} : RepQ K mg G H v (.tup ds) → Rep K mg G v (.tup ds)
  | .inl h => h
  | .inr ⟨_, _, _, z⟩ => z.elim
theorem RepQ.lstItems {G H : Hp} {v : V} {ds : List D} (s : Same G H) (r : RepQ K mg G H v (.lst ds)) : ∃ a xs, v = .ref a ∧ H a = some (.lst xs) ∧ RepL K mg G xs ds := r.lst s

section
variable {X : Cx} {W : XK} {a b c e : Expr} {es : List Expr} {f g h : En → Oc D} {pos : Pos}
variable {G H : Hp} {x y : V} {d1 d2 : D} {Q : VK}

theorem occ_same (i j : Str) : (!(Builtin.Str.occurrences j i 0 j.length 1).isEmpty) = (!(Builtin.Str.occurrences j i 0 j.length 1).isEmpty) := rfl
abbrev rInA (X : Cx) (neg : Bool) : R2 := fun x y H Q =>
  (∃ i j, x = .str i ∧ y = .str j ∧ Q (.bl (if neg then !(!(Builtin.Str.occurrences j i 0 j.length 1).isEmpty) else !(Builtin.Str.occurrences j i 0 j.length 1).isEmpty)) H) ∨
  (∃ d ds, Dp X.K H x d ∧ Dp X.K H y (.list ds) ∧ SeqAt.shaped d = true ∧ SeqAt.shaped (.list ds) = true ∧ Q (.bl (if neg then !ds.any fun z => PyData.eqv z d else ds.any fun z => PyData.eqv z d)) H) ∨
  (∃ d ds, Dp X.K H x d ∧ Dp X.K H y (.tuple ds) ∧ SeqAt.shaped d = true ∧ SeqAt.shaped (.tuple ds) = true ∧ Q (.bl (if neg then !ds.any fun z => PyData.eqv z d else ds.any fun z => PyData.eqv z d)) H)
theorem op_inA (hu : X.A.units + 65 < cLine) : OpR X (compareOp .In) (rInA X false) := op_in_str.or ((op_inD hu).or (op_inT hu))
theorem op_ninA (hu : X.A.units + 65 < cLine) : OpR X (compareOp .NotIn) (rInA X true) := op_notin_str.or ((op_notInD hu).or (op_notInT hu))
theorem inA_of {neg : Bool} {t : Bool} (s : Same G H) (r1 : RepQ X.K X.mg G H x d1) (r2 : RepQ X.K X.mg G H y d2) (e : inB d1 d2 = some t) (q : Q (.bl (if neg then !t else t)) H) : rInA X neg x y H Q := by
  unfold inB at e
  split at e
  · have e := Option.some.inj e
    exact .inl ⟨_, _, r1.str, r2.str, by rw [e]; exact q⟩
  · split at e
    · rename_i h1 h2
      split at e
      · rename_i hc
        rw [Bool.and_eq_true] at hc
        have e := Option.some.inj e
        exact .inr (.inl ⟨_, _, r1.dp s h1, r2.dp s h2, hc.1, hc.2, by rw [e]; exact q⟩)
      · cases e
    · rename_i h1 h2
      split at e
      · rename_i hc
        rw [Bool.and_eq_true] at hc
        have e := Option.some.inj e
        exact .inr (.inr ⟨_, _, r1.dp s h1, r2.dp s h2, hc.1, hc.2, by rw [e]; exact q⟩)
      · cases e
    · cases e
theorem se_in (ha : SQ X W a f) (hb : SQ X W b g) (hu : X.A.units + 65 < cLine) (hm : behindInMarks .In b = false := by rfl) : SE X W (.Compare a [.In] [b] pos) (bi inD f g) :=
  se_op2 (fun ha hb => pe_cmpR (op_inA hu) ha hb hm) (fun {G H x y d1 d2 Q} s r1 r2 p => by
    unfold inD at p
    cases e : inB d1 d2 with
    | none => rw [e] at p; exact p.elim
    | some t => rw [e] at p; exact inA_of (neg := false) s r1 r2 e (p.here s (.bl _))) ha hb
theorem se_nin (ha : SQ X W a f) (hb : SQ X W b g) (hu : X.A.units + 65 < cLine) (hm : behindInMarks .NotIn b = false := by rfl) : SE X W (.Compare a [.NotIn] [b] pos) (bi ninD f g) :=
  se_op2 (fun ha hb => pe_cmpR (op_ninA hu) ha hb hm) (fun {G H x y d1 d2 Q} s r1 r2 p => by
    unfold ninD at p
    cases e : inB d1 d2 with
    | none => rw [e] at p; exact p.elim
    | some t => rw [e] at p; exact inA_of (neg := true) s r1 r2 e (p.here s (.bl _))) ha hb

theorem cmp_of {q : Int → Int → Bool} (s : Same G H) (r1 : RepQ X.K X.mg G H x d1) (r2 : RepQ X.K X.mg G H y d2) (p : PostE X.K X.mg W G H Q (cmpD q d1 d2)) : rI0 (fun i j => .bl (q i j)) x y H Q := by
  unfold cmpD at p
  split at p
  · exact ⟨_, _, r1.int, r2.int, p.here s (.bl _)⟩
  · exact p.elim
theorem se_lt (ha : SQ X W a f) (hb : SQ X W b g) : SE X W (.Compare a [.Lt] [b] pos) (bi (cmpD fun i j => decide (i < j)) f g) := se_op2 (fun ha hb => pe_cmpR op_lt ha hb (nomark _)) cmp_of ha hb
theorem se_le (ha : SQ X W a f) (hb : SQ X W b g) : SE X W (.Compare a [.LtE] [b] pos) (bi (cmpD fun i j => decide (i ≤ j)) f g) := se_op2 (fun ha hb => pe_cmpR op_le ha hb (nomark _)) cmp_of ha hb
theorem se_gt (ha : SQ X W a f) (hb : SQ X W b g) : SE X W (.Compare a [.Gt] [b] pos) (bi (cmpD fun i j => decide (j < i)) f g) := se_op2 (fun ha hb => pe_cmpR op_gt ha hb (nomark _)) cmp_of ha hb
theorem se_ge (ha : SQ X W a f) (hb : SQ X W b g) : SE X W (.Compare a [.GtE] [b] pos) (bi (cmpD fun i j => decide (j ≤ i)) f g) := se_op2 (fun ha hb => pe_cmpR op_ge ha hb (nomark _)) cmp_of ha hb
theorem se_isN (ha : SQ X W a f) (hb : SQ X W b g) : SE X W (.Compare a [.Is] [b] pos) (bi isN f g) := se_op2 (fun ha hb => pe_cmpR op_isN ha hb (nomark _)) (fun {G H x y d1 d2 Q} s r1 r2 p => by
    unfold isN at p
    split at p
    · refine ⟨r2.non, ?_⟩
      rw [r1.nonIff]
      exact p.here s (.bl _)
    · exact p.elim) ha hb
theorem se_notN (ha : SQ X W a f) (hb : SQ X W b g) : SE X W (.Compare a [.IsNot] [b] pos) (bi notN f g) := se_op2 (fun ha hb => pe_cmpR op_notN ha hb (nomark _)) (fun {G H x y d1 d2 Q} s r1 r2 p => by
    unfold notN at p
    split at p
    · refine ⟨r2.non, ?_⟩
      rw [r1.nonIff]
      exact p.here s (.bl _)
    · exact p.elim) ha hb

theorem nilL {xs : List V} {ds : List D} (r : RepL K mg G xs ds) : xs = [] ↔ ds = [] := by cases r <;> simp
theorem se_add (ha : SQ X W a f) (hb : SQ X W b g) : SE X W (.BinOp a .Add b pos) (bi addD f g) :=
  se_op2 (fun ha hb => pe_op (op_add.or (op_add_str.or (op_cat.or op_catA))) ha hb) (fun {G H x y d1 d2 Q} s r1 r2 p => by
    unfold addD at p
    split at p
    · exact .inl ⟨_, _, r1.int, r2.int, p.here s (.int _)⟩
    · obtain ⟨c, p⟩ := p.chk
      exact .inr (.inl ⟨_, _, r1.str, r2.str, of_decide_eq_true c, p.here s (.str _)⟩)
    · obtain ⟨c, p⟩ := p.chk
      obtain ⟨l1, xs1, e1, h1, q1⟩ := r1.lst s
      obtain ⟨l2, xs2, e2, h2, q2⟩ := r2.lst s
      exact .inr (.inr (.inl ⟨l1, l2, xs1, xs2, e1, e2, h1, h2, by rw [q1.length, q2.length]; exact of_decide_eq_true c, p.newL s (q1.append q2)⟩))
    · obtain ⟨c, p⟩ := p.chk
      have t1 := r1.tupRep
      have t2 := r2.tupRep
      obtain ⟨l1, xs1, e1, h1, q1⟩ := r1.tup s
      obtain ⟨l2, xs2, e2, h2, q2⟩ := r2.tup s
      subst e1 e2
      refine .inr (.inr (.inr ⟨l1, l2, xs1, xs2, rfl, rfl, h1, h2, by rw [q1.length, q2.length]; exact of_decide_eq_true c, fun z => ?_, fun _ z => ?_, fun _ _ => p.newT s (q1.append q2)⟩))
      · have z1 := (nilL q1).mp z
        subst z1
        exact p.here s t2
      · have z1 := (nilL q2).mp z
        subst z1
        rw [List.append_nil] at p
        exact p.here s t1
    · exact p.elim) ha hb
theorem se_sub (ha : SQ X W a f) (hb : SQ X W b g) : SE X W (.BinOp a .Sub b pos) (bi subD f g) :=
  se_op2 (fun ha hb => pe_op op_sub ha hb) (fun {G H x y d1 d2 Q} s r1 r2 p => by
    unfold subD at p
    split at p
    · exact ⟨_, _, r1.int, r2.int, p.here s (.int _)⟩
    · exact p.elim) ha hb
theorem se_mul (ha : SQ X W a f) (hb : SQ X W b g) : SE X W (.BinOp a .Mult b pos) (bi mulD f g) :=
  se_op2 (fun ha hb => pe_op (op_mul.or op_rep) ha hb) (fun {G H x y d1 d2 Q} s r1 r2 p => by
    unfold mulD at p
    split at p
    · obtain ⟨c, p⟩ := p.chk
      exact .inl ⟨_, _, r1.int, r2.int, (show CMul _ _ by unfold CMul; simpa using c), p.here s (.int _)⟩
    · obtain ⟨c, p⟩ := p.chk
      obtain ⟨c1, c2, c3⟩ := of_decide_eq_true c
      obtain ⟨l1, xs1, e1, h1, q1⟩ := r1.lst s
      exact .inr ⟨l1, _, xs1, e1, r2.int, h1, c1, c2, by rw [q1.length]; exact c3, p.newL s (repL_rep q1 _)⟩
    · exact p.elim) ha hb
theorem se_fdiv (ha : SQ X W a f) (hb : SQ X W b g) : SE X W (.BinOp a .FloorDiv b pos) (bi fdivD f g) :=
  se_op2 (fun ha hb => pe_op op_fdiv ha hb) (fun {G H x y d1 d2 Q} s r1 r2 p => by
    unfold fdivD at p
    split at p
    · obtain ⟨c, p⟩ := p.chk
      exact ⟨_, _, r1.int, r2.int, (show CDiv _ _ by unfold CDiv; simpa using c), p.here s (.int _)⟩
    · exact p.elim) ha hb
theorem se_mod (ha : SQ X W a f) (hb : SQ X W b g) : SE X W (.BinOp a .Mod b pos) (bi modD f g) :=
  se_op2 (fun ha hb => pe_op op_mod ha hb) (fun {G H x y d1 d2 Q} s r1 r2 p => by
    unfold modD at p
    split at p
    · obtain ⟨c, p⟩ := p.chk
      exact ⟨_, _, r1.int, r2.int, of_decide_eq_true c, p.here s (.int _)⟩
    · exact p.elim) ha hb
theorem se_pow (ha : SQ X W a f) (hb : SQ X W b g) : SE X W (.BinOp a .Pow b pos) (bi powD f g) :=
  se_op2 (fun ha hb => pe_op op_pow ha hb) (fun {G H x y d1 d2 Q} s r1 r2 p => by
    unfold powD at p
    split at p
    · obtain ⟨c, p⟩ := p.chk
      exact ⟨_, _, r1.int, r2.int, (show CPow _ _ by unfold CPow; simpa using c), p.here s (.int _)⟩
    · exact p.elim) ha hb

theorem atI_repL {xs : List V} {ds : List D} {i : Int} {d : D} (r : RepL K mg G xs ds) (h : atI ds i = some d) : ∃ v, atI xs i = some v ∧ Rep K mg G v d := by
  unfold atI at h ⊢
  rw [r.length]
  obtain ⟨j, e1, e2⟩ := Option.bind_eq_some_iff.mp h
  obtain ⟨v, h1, h2⟩ := r.get e2
  exact ⟨v, by rw [e1]; exact h1, h2⟩
theorem se_ix (ha : SQ X W a f) (hb : SQ X W b g) (hs : PlainIx b) : SE X W (.Subscript a b pos) (bi ixD f g) :=
  se_op2 (fun ha hb => pe_ix ix_seq ha hb hs) (fun {G H x y d1 d2 Q} s r1 r2 p => by
    unfold ixD at p
    split at p
    · obtain ⟨c, p⟩ := p.chk
      split at p
      · rename_i hat
        exact .inr (.inr ⟨_, _, _, r1.str, r2.int, of_decide_eq_true c, hat, p.here s (.str _)⟩)
      · exact p.elim
    · split at p
      · rename_i ds hds
        split at p
        · rename_i d hat
          obtain ⟨q, xs, e, hq, r⟩ := r1.seq s hds
          obtain ⟨v, hv, rv⟩ := atI_repL r hat
          rcases hq with hq | hq
          · exact .inl ⟨q, xs, _, v, e, r2.int, hq, hv, p.here s rv⟩
          · exact .inr (.inl ⟨q, xs, _, v, e, r2.int, hq, hv, p.here s rv⟩)
        · exact p.elim
      · exact p.elim
    · exact p.elim) ha hb

/-! ### one-place -/
theorem se_un {r : V → Hp → VK → Prop} {F : D → Oc D} (rule : ∀ {ta : TE}, PE X a ta → PE X e (tUn r ta))
    (hr : ∀ {G H x d1 Q}, Same G H → RepQ X.K X.mg G H x d1 → PostE X.K X.mg W G H Q (F d1) → r x H Q)
    (ha : SQ X W a f) : SE X W e (un F f) := PE.weak (rule ha) fun σ H Q ⟨G, ρ, R, p⟩ => by
  refine ⟨G, ρ, R, ?_⟩
  revert p
  unfold un
  cases f ρ with
  | st => exact id
  | ex c => exact id
  | ok d1 =>
    intro p x G1 H1 x1 r1
    exact hr x1.gh r1 (PostE.imp x1 p fun _ _ q => q)
theorem sf_un {r : V → Hp → VK → Prop} {F : D → Oc D} (rule : ∀ {ta : TE}, PE X a ta → PE X e (tUn r ta))
    (hr : ∀ {G H x d1 Q}, Same G H → RepQ X.K X.mg G H x d1 → PostF X.K X.mg W G H Q (F d1) → r x H Q)
    (ha : SQ X W a f) : SF X W e (un F f) := PE.weak (rule ha) fun σ H Q ⟨G, ρ, R, p⟩ => by
  refine ⟨G, ρ, R, ?_⟩
  revert p
  unfold un
  cases f ρ with
  | st => exact id
  | ex c => exact id
  | ok d1 =>
    intro p x G1 H1 x1 r1
    refine hr x1.gh r1 ?_
    revert p
    simp only [bd_ok]
    cases F d1 with
    | st => exact id
    | ex c => exact fun p C G' H' e m => p C G' H' (x1.trans e) m
    | ok d => exact fun p a G' H' x ha ga ow => p a G' H' (x1.trans x) (x1.hh.free ha) ga ow
def negD : D → Oc D
  | .int i => .ok (.int (-i))
  | _ => .st
theorem se_neg (ha : SQ X W a f) : SE X W (.UnaryOp .USub a pos) (un negD f) := se_un (fun ha => pe_un un_neg ha) (fun {G H x d1 Q} s r p => by
  unfold negD at p
  split at p
  · exact ⟨_, r.int, p.here s (.int _)⟩
  · exact p.elim) ha

/-! ### calls of built-ins of one argument -/
def lenD : D → Oc D
  | .str z => chk (decide (z.length ≤ sizeLine)) (.ok (.int z.length))
  | d => match items d with
    | some ds => .ok (.int ds.length)
    | none => .st
def intD : D → Oc D
  | .int i => .ok (.int i)
  | .bl k => .ok (.int (if k then 1 else 0))
  | _ => .st
def listD (d : D) : Oc D := match items d with
  | some ds => .ok (.lst ds)
  | none => .st
def tupleD (d : D) : Oc D := match items d with
  | some ds => .ok (.tup ds)
  | none => .st
def allBl : List D → Option (List Bool)
  | [] => some []
  | .bl b :: ds => (allBl ds).map (b :: ·)
  | _ => none
def allD (d : D) : Oc D := match d with
  | .lst ds => match allBl ds with
    | some bs => .ok (.bl (bs.all id))
    | none => .st
  | _ => .st
def anyD (d : D) : Oc D := match d with
  | .lst ds => match allBl ds with
    | some bs => .ok (.bl (bs.any id))
    | none => .st
  | _ => .st
def allInt : List D → Option (List Int)
  | [] => some []
  | .int b :: ds => (allInt ds).map (b :: ·)
  | _ => none
def isort : List Int → List Int := fun l => l.mergeSort (fun a b => decide (a ≤ b))
def sortedID (d : D) : Oc D := match d with
  | .lst ds => match allInt ds with
    | some bs => .ok (.lst ((isort bs).map .int))
    | none => .st
  | _ => .st
theorem allBl_rep : ∀ {xs : List V} {ds : List D} {bs : List Bool}, RepL K mg G xs ds → allBl ds = some bs → xs = bs.map V.bl
  | _, [], bs, r, e => by cases r; cases e; rfl
  | _, d :: ds, bs, r, e => by
    cases r with
    | cons r t =>
      cases d with
      | bl b =>
        simp only [allBl] at e
        obtain ⟨q, h1, h2⟩ := Option.map_eq_some_iff.mp e
        subst h2
        cases r
        rw [List.map_cons, allBl_rep t h1]
      | _ => cases e
theorem allInt_rep : ∀ {xs : List V} {ds : List D} {bs : List Int}, RepL K mg G xs ds → allInt ds = some bs → xs = bs.map V.int
  | _, [], bs, r, e => by cases r; cases e; rfl
  | _, d :: ds, bs, r, e => by
    cases r with
    | cons r t =>
      cases d with
      | int b =>
        simp only [allInt] at e
        obtain ⟨q, h1, h2⟩ := Option.map_eq_some_iff.mp e
        subst h2
        cases r
        rw [List.map_cons, allInt_rep t h1]
      | _ => cases e
theorem repL_ints : ∀ bs : List Int, RepL K mg G (bs.map V.int) (bs.map D.int)
  | [] => .nil
  | b :: bs => .cons (.int b) (repL_ints bs)
theorem pe_B1 {id : String} {r : List V → Hp → VK → Prop} {nm : Str} {p : Pos} {ta : TE} (hc : CallR X (.builtin id) r) (hg : Gl X nm) (hm : X.mg nm = none) (hv : bootBuiltins nm = some (.builtin id)) (ha : PE X a ta) (hn : nm ≠ "__name__" := by decide) (hdb : (nm == ("__debug__" : Str)) = false := by decide)
    (he : starEach [a] X.env = (false, eval a X.env) :: starEach [] X.env := by rfl) : PE X (.Call (.Name nm p) [a] [] pos) (tUn (fun x H Q => r [x] H Q) ta) :=
  PE.weak (pe_callB hc hg hm hv (pa_cons ha pa_nil he) hn hdb he) fun σ H Q h => h
theorem pe_T1 {T : String} {r : List V → Hp → VK → Prop} {nm : Str} {p : Pos} {ta : TE} (hc : CallR X (.type T) r) (hg : Gl X nm) (hm : X.mg nm = none) (hv : bootBuiltins nm = some (.type T)) (ha : PE X a ta) (hn : nm ≠ "__name__" := by decide) (hdb : (nm == ("__debug__" : Str)) = false := by decide)
    (he : starEach [a] X.env = (false, eval a X.env) :: starEach [] X.env := by rfl) : PE X (.Call (.Name nm p) [a] [] pos) (tUn (fun x H Q => r [x] H Q) ta) :=
  PE.weak (pe_callTy hc hg hm hv (pa_cons ha pa_nil he) hn hdb he) fun σ H Q h => h
theorem se_len {p : Pos} (hg : Gl X "len") (hm : X.mg "len" = none) (ha : SQ X W a f) (he : starEach [a] X.env = (false, eval a X.env) :: starEach [] X.env := by rfl) : SE X W (.Call (.Name "len" p) [a] [] pos) (un lenD f) :=
  se_un (fun ha => pe_B1 call_len hg hm PySem.boot_len ha (by decide) (by decide) he) (fun {G H x d1 Q} s r p => by
    unfold lenD at p
    split at p
    · obtain ⟨c, p⟩ := p.chk
      rw [r.str]
      exact ⟨_, _, rfl, ⟨of_decide_eq_true c, rfl⟩, p.here s (.int _)⟩
    · split at p
      · rename_i ds hds
        obtain ⟨q, xs, e, hq, rr⟩ := r.seq s hds
        subst e
        refine ⟨_, ds.length, rfl, ?_, p.here s (.int _)⟩
        rw [← rr.length]
        rcases hq with hq | hq
        · exact .inl ⟨xs, hq, rfl⟩
        · exact .inr ⟨xs, hq, rfl⟩
      · exact p.elim) ha
theorem se_int1 {p : Pos} (hg : Gl X "int") (hm : X.mg "int" = none) (ha : SQ X W a f) (he : starEach [a] X.env = (false, eval a X.env) :: starEach [] X.env := by rfl) : SE X W (.Call (.Name "int" p) [a] [] pos) (un intD f) :=
  se_un (fun ha => pe_T1 call_int1 hg hm (by decide +kernel) ha (by decide) (by decide) he) (fun {G H x d1 Q} s r p => by
    unfold intD at p
    split at p
    · rw [r.int]; exact .inl ⟨_, rfl, p.here s (.int _)⟩
    · rw [r.bl]; exact .inr ⟨_, rfl, p.here s (.int _)⟩
    · exact p.elim) ha
theorem sf_list {p : Pos} (hg : Gl X "list") (hm : X.mg "list" = none) (ha : SQ X W a f) (he : starEach [a] X.env = (false, eval a X.env) :: starEach [] X.env := by rfl) : SF X W (.Call (.Name "list" p) [a] [] pos) (un listD f) :=
  sf_un (fun ha => pe_T1 call_list_of hg hm (by decide +kernel) ha (by decide) (by decide) he) (fun {G H x d1 Q} s r p => by
    unfold listD at p
    split at p
    · rename_i ds hds
      obtain ⟨q, xs, e, hq, rr⟩ := r.seq s hds
      subst e
      exact ⟨q, xs, rfl, hq, p.newL s rr⟩
    · exact p.elim) ha
theorem se_tuple {p : Pos} (hg : Gl X "tuple") (hm : X.mg "tuple" = none) (ha : SQ X W a f) (he : starEach [a] X.env = (false, eval a X.env) :: starEach [] X.env := by rfl) : SE X W (.Call (.Name "tuple" p) [a] [] pos) (un tupleD f) :=
  se_un (fun ha => pe_T1 call_tuple_of hg hm (by decide +kernel) ha (by decide) (by decide) he) (fun {G H x d1 Q} s r p => by
    unfold tupleD at p
    split at p
    · rename_i ds hds
      cases d1 with
      | lst es =>
        cases hds
        obtain ⟨q, xs, e, hq, rr⟩ := r.lst s
        subst e
        exact ⟨q, xs, rfl, .inl ⟨SqL.of hq, p.newT s rr⟩⟩
      | tup es =>
        cases hds
        have t := r.tupRep
        obtain ⟨q, xs, e, hq, rr⟩ := r.tup s
        subst e
        exact ⟨q, xs, rfl, .inr ⟨hq, p.here s t⟩⟩
      | fz es =>
        cases hds
        obtain ⟨q, xs, e, hq, rr⟩ := r.fz s
        subst e
        exact ⟨q, xs, rfl, .inl ⟨hq, p.newT s rr⟩⟩
      | _ => cases hds
    · exact p.elim) ha
theorem se_all {p : Pos} (hc : X.calm = true) (hg : Gl X "all") (hm : X.mg "all" = none) (ha : SQ X W a f) (he : starEach [a] X.env = (false, eval a X.env) :: starEach [] X.env := by rfl) : SE X W (.Call (.Name "all" p) [a] [] pos) (un allD f) :=
  se_un (fun ha => pe_B1 (cr_all hc) hg hm (by decide +kernel) ha (by decide) (by decide) he) (fun {G H x d1 Q} s r p => by
    unfold allD at p
    split at p
    · split at p
      · rename_i bs hb
        obtain ⟨q, xs, e, hq, rr⟩ := r.lst s
        subst e
        rw [allBl_rep rr hb] at hq
        exact ⟨q, bs, rfl, SqL.of hq, p.here s (.bl _)⟩
      · exact p.elim
    · exact p.elim) ha
theorem se_any {p : Pos} (hc : X.calm = true) (hg : Gl X "any") (hm : X.mg "any" = none) (ha : SQ X W a f) (he : starEach [a] X.env = (false, eval a X.env) :: starEach [] X.env := by rfl) : SE X W (.Call (.Name "any" p) [a] [] pos) (un anyD f) :=
  se_un (fun ha => pe_B1 (cr_any hc) hg hm (by decide +kernel) ha (by decide) (by decide) he) (fun {G H x d1 Q} s r p => by
    unfold anyD at p
    split at p
    · split at p
      · rename_i bs hb
        obtain ⟨q, xs, e, hq, rr⟩ := r.lst s
        subst e
        rw [allBl_rep rr hb] at hq
        exact ⟨q, bs, rfl, SqL.of hq, p.here s (.bl _)⟩
      · exact p.elim
    · exact p.elim) ha
theorem isort_perm (l : List Int) : (isort l).Perm l := List.mergeSort_perm l _
theorem isort_sorted (l : List Int) : (isort l).Pairwise (· ≤ ·) := by
  have h := List.pairwise_mergeSort (le := fun a b : Int => decide (a ≤ b)) (fun a b c h1 h2 => by simp at *; omega) (fun a b => by simp; omega) l
  exact h.imp fun h => of_decide_eq_true h
theorem sorted_unique {l m : List Int} (hp : l.Perm m) (h1 : l.Pairwise (· ≤ ·)) (h2 : m.Pairwise (· ≤ ·)) : l = m :=
  hp.eq_of_pairwise (fun a b _ _ h1 h2 => Int.le_antisymm h1 h2) h1 h2
theorem sf_sortedI {p : Pos} (hg : Gl X "sorted") (hm : X.mg "sorted" = none) (ha : SQ X W a f) (he : starEach [a] X.env = (false, eval a X.env) :: starEach [] X.env := by rfl) : SF X W (.Call (.Name "sorted" p) [a] [] pos) (un sortedID f) :=
  sf_un (fun ha => pe_B1 cr_sortedI hg hm (by decide +kernel) ha (by decide) (by decide) he) (fun {G H x d1 Q} s r p => by
    unfold sortedID at p
    split at p
    · split at p
      · rename_i bs hb
        obtain ⟨q, xs, e, hq, rr⟩ := r.lst s
        subst e
        rw [allInt_rep rr hb] at hq
        refine ⟨q, bs, rfl, SqL.of hq, fun ns' pa hp ho hf => ?_⟩
        have e2 : ns' = isort bs := sorted_unique (hp.trans (isort_perm bs).symm) ho (isort_sorted bs)
        rw [e2]
        exact p.newL s (repL_ints _) pa hf
      · exact p.elim
    · exact p.elim) ha
end
end Fx

set_option Elab.async false
set_option linter.all false
set_option maxRecDepth 100000
set_option maxHeartbeats 4000000
/-! Fx3: argument lists, displays, calls, attributes, slices, tests. -/
namespace Fx
open PySem PySem.Spec PyProof.Rows L2
variable {K : PySem.W.Frag} {mg : Str → Option Value}

theorem PostA.imp {W : XK} {G H G1 H1 : Hp} {Q Q' : List V → Hp → Prop} {o : Oc (List D)} (x : Ext G H G1 H1) (h : PostA K mg W G H Q o) (q : ∀ v H, Q v H → Q' v H) : PostA K mg W G1 H1 Q' o := by
  cases o with
  | st => exact h
  | ok d => exact fun v G' H' e r => q _ _ (h v G' H' (x.trans e) r)
  | ex c => exact fun C G' H' e m => h C G' H' (x.trans e) m
theorem PostT.imp {W : XK} {G H G1 H1 : Hp} {Q Q' : Bool → Hp → Prop} {o : Oc Bool} (x : Ext G H G1 H1) (h : PostT K mg W G H Q o) (q : ∀ v H, Q v H → Q' v H) : PostT K mg W G1 H1 Q' o := by
  cases o with
  | st => exact h
  | ok d => exact fun G' H' e => q _ _ (h G' H' (x.trans e))
  | ex c => exact fun C G' H' e m => h C G' H' (x.trans e) m
theorem PostF.imp {W : XK} {G H G1 H1 : Hp} {Q Q' : VK} {o : Oc D} (x : Ext G H G1 H1) (h : PostF K mg W G H Q o) (q : ∀ v H, Q v H → Q' v H) : PostF K mg W G1 H1 Q' o := by
  cases o with
  | st => exact h
  | ok d => exact fun a G' H' e ha ga ow => q _ _ (h a G' H' (x.trans e) (x.hh.free ha) ga ow)
  | ex c => exact fun C G' H' e m => h C G' H' (x.trans e) m

section
variable {X : Cx} {W : XK} {a b c e : Expr} {es : List Expr} {f g h : En → Oc D} {fs : En → Oc (List D)} {pos : Pos}
variable {G H : Hp} {x y : V} {d1 d2 : D} {Q : VK}

/-! ### argument lists -/
def aN : En → Oc (List D) := fun _ => .ok []
def aC (f : En → Oc D) (fs : En → Oc (List D)) : En → Oc (List D) := fun ρ => bd (f ρ) fun d => bd (fs ρ) fun ds => .ok (d :: ds)
theorem sa_nil : SA X W [] aN := PA.weak pa_nil fun σ H Q ⟨G, ρ, R, p⟩ => p [] G H (.refl R.sub) .nil
theorem sa_cons (ha : SE X W a f) (hr : SA X W es fs) (hs : starEach (a :: es) X.env = (false, eval a X.env) :: starEach es X.env := by rfl) : SA X W (a :: es) (aC f fs) := PA.weak (pa_cons ha hr hs) fun σ H Q ⟨G, ρ, R, p⟩ => by
  refine ⟨G, ρ, R, ?_⟩
  revert p
  unfold aC
  cases f ρ with
  | st => exact id
  | ex c => exact id
  | ok d =>
    intro p v G1 H1 x1 r1
    refine ⟨G1, ρ, R.ext x1, ?_⟩
    revert p
    simp only [bd_ok]
    cases fs ρ with
    | st => exact id
    | ex c => exact fun p C G' H' e m => p C G' H' (x1.trans e) m
    | ok ds => exact fun p vs G2 H2 x2 r2 => p (v :: vs) G2 H2 (x1.trans x2) (.cons (r1.same x2.gg) r2)
def tpl (fs : En → Oc (List D)) : En → Oc D := fun ρ => bd (fs ρ) fun ds => chk (decide (ds.length ≤ sizeLine)) (.ok (.tup ds))
def lsd (fs : En → Oc (List D)) : En → Oc D := fun ρ => bd (fs ρ) fun ds => chk (decide (ds.length ≤ sizeLine)) (.ok (.lst ds))
theorem se_tup {j} (ha : SA X W es fs) : SE X W (.Tuple es j pos) (tpl fs) := PE.weak (pe_tup ha) fun σ H Q ⟨G, ρ, R, p⟩ => by
  refine ⟨G, ρ, R, ?_⟩
  revert p
  unfold tpl
  cases fs ρ with
  | st => exact id
  | ex c => exact id
  | ok ds =>
    intro p vs G1 H1 x1 r1
    have p := PostE.imp x1 p fun _ _ q => q
    obtain ⟨c, p⟩ := p.chk
    exact ⟨by rw [r1.length]; exact of_decide_eq_true c, p.newT x1.gh r1⟩
theorem sf_lst (ha : SA X W es fs) : SF X W (.List es pos) (lsd fs) := PE.weak (pe_lst ha) fun σ H Q ⟨G, ρ, R, p⟩ => by
  refine ⟨G, ρ, R, ?_⟩
  revert p
  unfold lsd
  cases fs ρ with
  | st => exact id
  | ex c => exact id
  | ok ds =>
    intro p vs G1 H1 x1 r1
    have p := PostF.imp x1 p fun _ _ q => q
    obtain ⟨c, p⟩ := p.chk
    exact ⟨by rw [r1.length]; exact of_decide_eq_true c, p.newL x1.gh r1⟩

/-! ### calls of defs -/
def spF (K : PySem.W.Frag) (mg : Str → Option Value) (n : Nat) (F : List D → Oc D) : Sp := fun vs H Q E => vs.length = n ∧ ∃ G ds, Same G H ∧ RepL K mg G vs ds ∧ PostE K mg E G H Q (F ds)
structure Kn (P : Program) (w : World) (K : PySem.W.Frag) (mg : Str → Option Value) (base : Heap) (k : Nat) (x : Str) (n : Nat) (dds : List D) (F : List D → Oc D) : Prop where
  ex : ∃ (f : Addr) (fd : FuncData) (ps : List Str) (ds : List Value) (dvs : List V), FnOk P w K mg base (L2.CX P w) k f fd ps (spF K mg (n + dds.length) F) ∧ mg x = some (.ref f) ∧ PySem.W.keepIn K (.ref f) = true ∧ Binds K fd ps ds ∧ Vals dvs ds ∧ (∀ G, RepL K mg G dvs dds)
abbrev XKn (X : Cx) := Kn X.prog X.w X.K X.mg X.base
def cal (F : List D → Oc D) (n : Nat) (dds : List D) (fs : En → Oc (List D)) : En → Oc D := fun ρ => bd (fs ρ) fun ds => chk (decide (ds.length = n)) (F (ds ++ dds))
theorem PostE.call {n : Nat} {vs dvs : List V} {ds dds : List D} {F : List D → Oc D} (s : Same G H) (r : RepL K mg G vs ds) (rd : ∀ G, RepL K mg G dvs dds) (p : PostE K mg W G H Q (Fx.chk (decide (ds.length = n)) (F (ds ++ dds)))) : spF K mg (n + dds.length) F (vs ++ dvs) H Q W := by
  obtain ⟨c, p⟩ := p.chk
  exact ⟨by rw [List.length_append, r.length, (rd G).length, of_decide_eq_true c], G, ds ++ dds, s, r.append (rd G), p⟩
theorem se_call {k n : Nat} {nm : Str} {dds : List D} {F : List D → Oc D} {p : Pos} (kn : XKn X k nm n dds F) (C : Ctx X W) (hr : Room k X.A) (hg : Gl X nm) (ha : SA X W (e :: es) fs) (hdb : (nm == ("__debug__" : Str)) = false := by decide)
    (he : starEach (e :: es) X.env = (false, eval e X.env) :: starEach es X.env := by rfl) (hpl : (backTo pos (starEach es X.env)).any (·.1) = false := by rfl) : SE X W (.Call (.Name nm p) (e :: es) [] pos) (cal F n dds fs) := by
  obtain ⟨f, fd, ps, ds, dvs, ok, gm, kp, b, vd, rd⟩ := kn.ex
  refine PE.weak (pe_call (E := W) ok hr hg gm kp b vd C.pass ha hdb he hpl) fun σ H Q ⟨G, ρ, R, p⟩ => ?_
  refine ⟨G, ρ, R, ?_⟩
  revert p
  unfold cal
  cases fs ρ with
  | st => exact id
  | ex c => exact id
  | ok ds =>
    intro p vs G1 H1 x1 r1
    have p := PostE.imp x1 p fun _ _ q => q
    exact p.call x1.gh r1 rd
theorem se_call0 {k : Nat} {nm : Str} {dds : List D} {F : List D → Oc D} {p : Pos} (kn : XKn X k nm 0 dds F) (C : Ctx X W) (hr : Room k X.A) (hg : Gl X nm) (hdb : (nm == ("__debug__" : Str)) = false := by decide) : SE X W (.Call (.Name nm p) [] [] pos) (cal F 0 dds aN) := by
  obtain ⟨f, fd, ps, ds, dvs, ok, gm, kp, b, vd, rd⟩ := kn.ex
  refine PE.weak (pe_call0 (E := W) ok hr hg gm kp b vd C.pass hdb) fun σ H Q ⟨G, ρ, R, p⟩ => ?_
  exact PostE.call (vs := []) R.sub .nil rd p

/-! ### instances -/
def spI (K : PySem.W.Frag) (mg : Str → Option Value) (c : Str) (n : Nat) (F : List D → Oc D) : Sp := fun vs H Q E => vs.length = n + 1 ∧ ∃ G ds x dx C vs', vs = .ref x :: vs' ∧ mg c = some (.ref C) ∧ H x = some (.ins C dx []) ∧ H dx = some (.own x) ∧ dx ≠ x ∧ G x = none ∧ Same G H ∧ RepL K mg G vs' ds ∧
  match F ds with
  | .st => False
  | .ok d => ∀ G' H', (∀ b o, H b = some o → b ≠ x → H' b = some o) → Same G G' → Same G' H' → (∀ b o, H b = some o → b ≠ x → G b = none → G' b = none) → G' x = none → OwAt K mg G' H' x d → Q .non H'
  | .ex c' => ∀ C' G' H', (∀ b o, H b = some o → b ≠ x → H' b = some o) → Same G G' → Same G' H' → (∀ b o, H b = some o → b ≠ x → G b = none → G' b = none) → mg c' = some (.ref C') → E (.ref C') none H'
structure KnC (P : Program) (w : World) (K : PySem.W.Frag) (mg : Str → Option Value) (base : Heap) (k : Nat) (c : Str) (n : Nat) (dds : List D) (F : List D → Oc D) : Prop where
  ex : ∃ (C f : Addr) (fd : FuncData) (ps : List Str) (ds : List Value) (dvs : List V), Mk K C f ∧ FnOk P w K mg base (L2.CX P w) k f fd ps (spI K mg c (n + dds.length) F) ∧ mg c = some (.ref C) ∧ Binds K fd ps ds ∧ Vals dvs ds ∧ (∀ G, RepL K mg G dvs dds)
abbrev XKnC (X : Cx) := KnC X.prog X.w X.K X.mg X.base
theorem sf_make {k n : Nat} {nm : Str} {dds : List D} {F : List D → Oc D} {p : Pos} (kn : XKnC X k nm n dds F) (C : Ctx X W) (hr : Room (k + 1) X.A) (hg : Gl X nm) (ha : SA X W (e :: es) fs) (hdb : (nm == ("__debug__" : Str)) = false := by decide)
    (he : starEach (e :: es) X.env = (false, eval e X.env) :: starEach es X.env := by rfl) (hpl : (backTo pos (starEach es X.env)).any (·.1) = false := by rfl) : SF X W (.Call (.Name nm p) (e :: es) [] pos) (cal F n dds fs) := by
  obtain ⟨Cl, f, fd, ps, ds, dvs, mk, ok, gm, b, vd, rd⟩ := kn.ex
  refine PE.weak (pe_make (E := W) mk ok hr hg gm b vd C.pass ha hdb he hpl) fun σ H Q ⟨G, ρ, R, p⟩ => ?_
  refine ⟨G, ρ, R, ?_⟩
  revert p
  unfold cal
  cases fs ρ with
  | st => exact id
  | ex c => exact id
  | ok ds =>
    intro p vs G1 H1 x1 r1 x dx nx ndx ne
    have p := PostF.imp x1 p fun _ _ q => q
    obtain ⟨c, p⟩ := p.chk
    have hl := of_decide_eq_true c
    have s1 : Same H1 (upd (upd H1 dx (.own x)) x (.ins Cl dx [])) := fun b o e => by
      rw [upd_ne (ne_of_none e nx), upd_ne (ne_of_none e ndx)]; exact e
    refine ⟨by simp [r1.length, (rd G).length, hl], G1, ds ++ dds, x, dx, Cl, vs ++ dvs, rfl, gm, upd_same, by rw [upd_ne ne]; exact upd_same, ne, x1.gh.free nx, x1.gh.trans s1, r1.append (rd _), ?_⟩
    revert p
    cases F (ds ++ dds) with
    | st => exact id
    | ok d =>
      intro p G' H' h1 gg gh nc gx ow
      exact ⟨rfl, p x G' H' ⟨fun b o e => h1 b o (s1 b o e) (ne_of_none e nx), gg, gh, fun b o e g => nc b o (s1 b o e) (ne_of_none e nx) g⟩ nx gx ow⟩
    | ex c' => exact fun p C' G' H' h1 gg gh nc m => p C' G' H' ⟨fun b o e => h1 b o (s1 b o e) (ne_of_none e nx), gg, gh, fun b o e g => nc b o (s1 b o e) (ne_of_none e nx) g⟩ m

/-! ### attributes -/
def fldD (cs : List Str) (n : Str) (d : D) : Oc D := match d with
  | .obj c fs => if c ∈ cs then (match fs.lookup n with | some x => .ok x | none => .st) else .st
  | _ => .st
def ClsA (K : PySem.W.Frag) (mg : Str → Option Value) (n : Str) (c : Str) : Prop := ∀ C, mg c = some (.ref C) → Cls K C ∧ NoAttr K C n
theorem se_fld {n : Str} {cs : List Str} (hc : ∀ c ∈ cs, ClsA X.K X.mg n c) (ha : SQ X W a f) (hb : attributeBase a n X.env (eval a X.env) = eval a X.env := by rfl) : SE X W (.Attribute a n pos) (un (fldD cs n) f) := PE.weak (pe_fld ha hb) fun σ H Q ⟨G, ρ, R, p⟩ => by
  refine ⟨G, ρ, R, ?_⟩
  revert p
  unfold un
  cases f ρ with
  | st => exact id
  | ex c => exact id
  | ok d1 =>
    intro p x G1 H1 x1 r1
    have p := PostE.imp x1 p fun _ _ q => q
    simp only [bd_ok] at p
    unfold fldD at p
    split at p
    · rename_i _ c fs _
      split at p
      · rename_i hin
        split at p
        · rename_i d hd
          have hx : ∃ a C dx vs, x = .ref a ∧ X.mg c = some (.ref C) ∧ H1 a = some (.ins C dx vs) ∧ RepF X.K X.mg G1 vs fs := by
            rcases r1 with r1 | ⟨a, e, _, C, dx, vs, m, h, r⟩
            · cases r1 with
              | obj m h r => exact ⟨_, _, _, _, rfl, m, x1.gh _ _ h, r⟩
            · exact ⟨a, C, dx, vs, e, m, h, r⟩
          obtain ⟨a, C, dx, vs, e, m, h, r⟩ := hx
          obtain ⟨v, hv, rv⟩ := r.look hd
          obtain ⟨k1, k2⟩ := hc c hin C m
          exact ⟨a, C, dx, vs, v, e, h, k1, k2, hv, p.here x1.gh rv⟩
        · exact p.elim
      · exact p.elim
    · exact p.elim

/-! ### list.index, list.count -/
def indexD (d e : D) : Oc D := match d with
  | .lst ds => match toPDs ds, toPD e with
    | some ps, some q => match ps.findIdx? (fun z => PyData.eqv z q) with
      | some j => chk (SeqAt.shaped (.list ps) && SeqAt.shaped q) (.ok (.int (j : Nat)))
      | none => .st
    | _, _ => .st
  | _ => .st
def mtD (tyB : D → Bool) (F : D → List D → Oc D) (f : En → Oc D) (fs : En → Oc (List D)) : En → Oc D := fun ρ => bd (f ρ) fun d => chk (tyB d) (bd (fs ρ) fun ds => F d ds)
theorem se_mt {T idn : String} {nm : Str} {r : V → List V → Hp → VK → Prop} {apos : Pos} {tyB : D → Bool} {F : D → List D → Oc D} (pa : PlainAttrs T) (slot : Slot T nm idn) (hty : typeOf (.builtin idn) = pure (.type "method_descriptor")) (hm : MtR X idn r)
    (h1 : ∀ {G H x d}, Same G H → RepQ X.K X.mg G H x d → tyB d = true → tyV X.K T x H)
    (h2 : ∀ {G H x d vs ds Q}, Same G H → RepQ X.K X.mg G H x d → RepL X.K X.mg G vs ds → PostE X.K X.mg W G H Q (F d ds) → r x vs H Q) (ha : SQ X W a f) (hb : SA X W (e :: es) fs)
    (hbase : attributeBase a nm X.env (eval a X.env) = eval a X.env := by rfl)
    (hfew : ((backTo pos (starEach (e :: es) X.env)).all (fun x => !x.1) && (backToKw pos (keywordEach [] X.env)).all (fun x => x.1.isSome)
      && decide ((e :: es).length + ([] : List Keyword).length + (if ([] : List Keyword).isEmpty then 0 else 1) < 30)) = true := by rfl)
    (hline : (apos.endLine == pos.line) = true := by rfl) (hs : starEach (e :: es) X.env = (false, eval e X.env) :: starEach es X.env := by rfl) (hplain : (backTo pos (starEach es X.env)).any (·.1) = false := by rfl) :
    SE X W (.Call (.Attribute a nm apos) (e :: es) [] pos) (mtD tyB F f fs) := by
  refine PE.weak (pe_bm pa slot hty hm ha hb hbase hfew hline hs hplain) fun σ H Q ⟨G, ρ, R, p⟩ => ?_
  refine ⟨G, ρ, R, ?_⟩
  revert p
  unfold mtD
  cases f ρ with
  | st => exact id
  | ex c => exact id
  | ok d1 =>
    intro p x G1 H1 x1 r1
    have p := PostE.imp x1 p fun _ _ q => q
    obtain ⟨c, p⟩ := p.chk
    refine ⟨h1 x1.gh r1 c, G1, ρ, R.ext x1, ?_⟩
    revert p
    cases fs ρ with
    | st => exact id
    | ex c => exact id
    | ok ds =>
      intro p vs G2 H2 x2 r2
      exact h2 x2.gh (RepQ.ext x2 r1) r2 (PostE.imp x2 p fun _ _ q => q)
def isLst : D → Bool
  | .lst _ => true
  | _ => false
def indexM (d : D) (es : List D) : Oc D := match es with
  | [e] => indexD d e
  | _ => .st
theorem ty_lst {G H : Hp} {x : V} {d : D} (s : Same G H) (r : RepQ K mg G H x d) (h : isLst d = true) : tyV K "list" x H := by
  cases d with
  | lst ds =>
    obtain ⟨a, xs, e, h, _⟩ := r.lst s
    subst e
    exact .inl ⟨rfl, _, SqL.of h⟩
  | _ => cases h
theorem se_index {apos : Pos} (hu : X.A.units + 65 < cLine) (ha : SQ X W a f) (hb : SA X W (e :: es) fs)
    (hbase : attributeBase a "index" X.env (eval a X.env) = eval a X.env := by rfl)
    (hfew : ((backTo pos (starEach (e :: es) X.env)).all (fun x => !x.1) && (backToKw pos (keywordEach [] X.env)).all (fun x => x.1.isSome)
      && decide ((e :: es).length + ([] : List Keyword).length + (if ([] : List Keyword).isEmpty then 0 else 1) < 30)) = true := by rfl)
    (hline : (apos.endLine == pos.line) = true := by rfl) (hs : starEach (e :: es) X.env = (false, eval e X.env) :: starEach es X.env := by rfl) (hplain : (backTo pos (starEach es X.env)).any (·.1) = false := by rfl) :
    SE X W (.Call (.Attribute a "index" apos) (e :: es) [] pos) (mtD isLst indexM f fs) :=
  se_mt PySem.F.plainAttrs_list PySem.F.slot_list_index PySem.F.type_list_index (mt_indexD hu) ty_lst (fun {G H x d vs ds Q} s r1 r2 p => by
    unfold indexM at p
    split at p
    · rename_i q
      unfold indexD at p
      split at p
      · rename_i ls
        split at p
        · rename_i ps pq hps hpq
          split at p
          · rename_i j hj
            obtain ⟨c, p⟩ := p.chk
            rw [Bool.and_eq_true] at c
            obtain ⟨l, xs, e1, hl, rl⟩ := r1.lst s
            subst e1
            cases r2 with
            | cons r2 r3 =>
              cases r3
              obtain ⟨hj1, hj2, hj3⟩ := List.findIdx?_eq_some_iff_getElem.mp hj
              exact ⟨l, _, pq, ps, j, ps[j], rfl, rfl, .lst (SqL.of hl) (rl.dp s hps), r2.dp s hpq, c.1, c.2, List.getElem?_eq_getElem hj1, hj2, fun m z' hm hz => by
                have hm' : m < ps.length := Nat.lt_trans hm hj1
                rw [List.getElem?_eq_getElem hm'] at hz
                cases hz
                simpa using hj3 m hm, p.here s (.int _)⟩
          · exact p.elim
        · exact p.elim
      · exact p.elim
    · exact p.elim) ha hb hbase hfew hline hs hplain

/-! ### slices -/
def oP (o : Option (En → Oc D)) : En → Oc (Option Int) := fun ρ => match o with
  | none => .ok none
  | some f => bd (f ρ) fun d => match d with | .int i => .ok (some i) | _ => .st
def cutD (ds : List D) (lo hi : Option Int) : List D := (ds.drop (HT.sIx ds.length 0 lo)).take (HT.sIx ds.length ds.length hi - HT.sIx ds.length 0 lo)
def slD (d : D) (lo hi : Option Int) : Oc D := match d with
  | .str z => chk (decide (z.length ≤ sizeLine)) (.ok (.str (cutS z lo hi)))
  | .lst ds => .ok (.lst (cutD ds lo hi))
  | .fz ds => .ok (.lst (cutD ds lo hi))
  | .tup ds => .ok (.tup (cutD ds lo hi))
  | _ => .st
def slc (f : En → Oc D) (lo hi : Option (En → Oc D)) : En → Oc D := fun ρ => bd (f ρ) fun d => bd (oP lo ρ) fun l => bd (oP hi ρ) fun h => slD d l h
def PostO (K : PySem.W.Frag) (mg : Str → Option Value) (W : XK) (G H : Hp) (Q : Option Int → Hp → Prop) : Oc (Option Int) → Prop
  | .st => False
  | .ok b => ∀ G' H', Ext G H G' H' → Q b H'
  | .ex c => ∀ C G' H', Ext G H G' H' → mg c = some (.ref C) → W (.ref C) none H'
def tO (K : PySem.W.Frag) (mg : Str → Option Value) (W : XK) (f : Option (En → Oc D)) : TO := fun σ H Q => ∃ G ρ, Rel K mg G H ρ σ ∧ PostO K mg W G H Q (oP f ρ)
abbrev SO (X : Cx) (W : XK) (e : Option Expr) (f : Option (En → Oc D)) : Prop := PO X e (tO X.K X.mg W f)
theorem PO.weak {e : Option Expr} {t u : TO} (h : PO X e t) (w : ∀ σ H Q, u σ H Q → t σ H Q) : PO X e u := ⟨fun pins s σ H Q I q => h.run pins s σ H Q I (w _ _ _ q)⟩
theorem so_none : SO X W none none := PO.weak po_none fun σ H Q ⟨G, ρ, R, p⟩ => p G H (.refl R.sub)
theorem so_some (ha : SE X W a f) : SO X W (some a) (some f) := PO.weak (po_some ha) fun σ H Q ⟨G, ρ, R, p⟩ => by
  refine ⟨G, ρ, R, ?_⟩
  revert p
  unfold oP
  simp only
  cases f ρ with
  | st => exact id
  | ex c => exact id
  | ok d =>
    simp only [bd_ok]
    cases d with
    | int i =>
      intro p v G1 H1 x1 r
      cases r
      exact ⟨i, rfl, p G1 H1 x1⟩
    | _ => exact fun p => p.elim
theorem cutV_repL {xs : List V} {ds : List D} (r : RepL K mg G xs ds) (lo hi : Option Int) : RepL K mg G (cutV xs lo hi) (cutD ds lo hi) := by
  unfold cutV cutD
  rw [r.length]
  exact (r.drop _).take _
theorem cutD_whole {ds : List D} {lo hi : Option Int} (h : HT.sIx ds.length 0 lo = 0 ∧ HT.sIx ds.length ds.length hi = ds.length) : cutD ds lo hi = ds := by
  unfold cutD
  rw [h.1, h.2]
  simp
theorem se_sl {lo hi : Option Expr} {fl fh : Option (En → Oc D)} {p2 : Pos} (ha : SQ X W a f) (hl : SO X W lo fl) (hh : SO X W hi fh) : SE X W (.Subscript a (.Slice lo hi none p2) pos) (slc f fl fh) := by
  refine PE.weak (pe_slice (sl_list.or (sl_tupA.or sl_str)) ha hl hh) fun σ H Q ⟨G, ρ, R, p⟩ => ?_
  refine ⟨G, ρ, R, ?_⟩
  revert p
  unfold slc
  cases f ρ with
  | st => exact id
  | ex c => exact id
  | ok d =>
    intro p x G1 H1 x1 r1
    have p := PostE.imp x1 p fun _ _ q => q
    refine ⟨G1, ρ, R.ext x1, ?_⟩
    revert p
    simp only [bd_ok]
    cases oP fl ρ with
    | st => exact id
    | ex c => exact id
    | ok l =>
      intro p G2 H2 x2
      have p := PostE.imp x2 p fun _ _ q => q
      refine ⟨G2, ρ, (R.ext x1).ext x2, ?_⟩
      revert p
      simp only [bd_ok]
      cases oP fh ρ with
      | st => exact id
      | ex c => exact id
      | ok u =>
        intro p G3 H3 x3
        have p := PostE.imp x3 p fun _ _ q => q
        simp only [bd_ok] at p
        have r3 : RepQ X.K X.mg G3 H3 x d := RepQ.ext x3 (RepQ.ext x2 r1)
        have s := x3.gh
        unfold slD at p
        split at p
        · obtain ⟨c, p⟩ := p.chk
          exact .inr (.inr ⟨_, r3.str, of_decide_eq_true c, p.here s (.str _)⟩)
        · obtain ⟨q, xs, e, hq, rr⟩ := r3.lst s
          exact .inl ⟨q, xs, e, SqL.of hq, p.newL s (cutV_repL rr l u)⟩
        · obtain ⟨q, xs, e, hq, rr⟩ := r3.fz s
          exact .inl ⟨q, xs, e, hq, p.newL s (cutV_repL rr l u)⟩
        · have t := r3.tupRep
          obtain ⟨q, xs, e, hq, rr⟩ := r3.tup s
          refine .inr (.inl ⟨q, xs, e, hq, fun hw => ?_, fun _ => p.newT s (cutV_repL rr l u)⟩)
          subst e
          rw [rr.length] at hw
          rw [cutD_whole hw] at p
          exact p.here s t
        · exact p.elim
def revD (d : D) : Oc D := match d with
  | .lst ds => .ok (.lst ds.reverse)
  | .fz ds => .ok (.lst ds.reverse)
  | _ => .st
theorem se_rev {k : Nat} {p1 p2 p3 : Pos} (ha : SQ X W a f) : SE X W (.Subscript a (.Slice none none (some (.UnaryOp .USub (.Constant (.int 1) k p1) p2)) p3) pos) (un revD f) :=
  se_un (r := fun x H Q => ∃ a xs, x = .ref a ∧ SqL X.K H a xs ∧ ∀ p, H p = none → Q (.ref p) (upd H p (.lst xs.reverse))) (fun ha => pe_revL ha) (fun {G H x d1 Q} s r p => by
    unfold revD at p
    split at p
    · obtain ⟨q, xs, e, hq, rr⟩ := r.lst s
      exact ⟨q, xs, e, SqL.of hq, p.newL s rr.reverse⟩
    · obtain ⟨q, xs, e, hq, rr⟩ := r.fz s
      exact ⟨q, xs, e, hq, p.newL s rr.reverse⟩
    · exact p.elim) ha

/-! ### tests -/
def tst (f : En → Oc D) : En → Oc Bool := fun ρ => bd (f ρ) fun d => match d with | .bl b => .ok b | _ => .st
theorem st_val (ha : SE X W a f) (he : ∀ whole, isTrue a X.env whole = (do let v ← whole; standAt a.pos; holding [v] (truthy v)) := by intro _; rfl) : STT X W a (tst f) := PT.weak (pt_val ha he) fun σ H Q ⟨G, ρ, R, p⟩ => by
  refine ⟨G, ρ, R, ?_⟩
  revert p
  unfold tst
  cases f ρ with
  | st => exact id
  | ex c => exact id
  | ok d =>
    simp only [bd_ok]
    cases d with
    | bl b =>
      intro p v G1 H1 x1 r
      cases r
      exact ⟨b, rfl, p G1 H1 x1⟩
    | _ => exact fun p => p.elim
theorem st_op2 {r : R2} {F : D → D → Oc D} (rule : ∀ {ta tb : TE}, PE X a ta → PE X b tb → PT X e (tTest (tOp r ta tb)))
    (hr : ∀ {G H x y d1 d2 Q}, Same G H → RepQ X.K X.mg G H x d1 → RepQ X.K X.mg G H y d2 → PostE X.K X.mg W G H Q (F d1 d2) → r x y H Q)
    (ha : SQ X W a f) (hb : SQ X W b g) : STT X W e (tst (bi F f g)) := PT.weak (rule ha hb) fun σ H Q ⟨G, ρ, R, p⟩ => by
  refine ⟨G, ρ, R, ?_⟩
  revert p
  unfold tst bi
  cases f ρ with
  | st => exact id
  | ex c => exact id
  | ok d1 =>
    intro p x G1 H1 x1 r1
    refine ⟨G1, ρ, R.ext x1, ?_⟩
    revert p
    simp only [bd_ok]
    cases g ρ with
    | st => exact id
    | ex c => exact fun p C G' H' e m => p C G' H' (x1.trans e) m
    | ok d2 =>
      intro p y G2 H2 x2 r2
      simp only [bd_ok] at p
      refine hr x2.gh (RepQ.ext x2 r1) r2 ?_
      revert p
      cases F d1 d2 with
      | st => exact id
      | ex c => exact fun p C G' H' e m => p C G' H' ((x1.trans x2).trans e) m
      | ok d =>
        simp only [bd_ok]
        cases d with
        | bl b =>
          intro p v G3 H3 x3 r
          cases r
          exact ⟨b, rfl, p G3 H3 ((x1.trans x2).trans x3)⟩
        | _ => exact fun p => p.elim
def nt (t : En → Oc Bool) : En → Oc Bool := fun ρ => bd (t ρ) fun b => .ok (!b)
def an (t u : En → Oc Bool) : En → Oc Bool := fun ρ => bd (t ρ) fun b => if b then u ρ else .ok false
def orr (t u : En → Oc Bool) : En → Oc Bool := fun ρ => bd (t ρ) fun b => if b then .ok true else u ρ
variable {t u : En → Oc Bool} {rest : List Expr}
theorem st_not (ha : STT X W a t) : STT X W (.UnaryOp .Not a pos) (nt t) := PT.weak (pt_not ha) fun σ H Q ⟨G, ρ, R, p⟩ => by
  refine ⟨G, ρ, R, ?_⟩
  revert p
  unfold nt
  cases t ρ <;> exact id
theorem sw_and1 (ha : STT X W a t) : SW X W (.BoolOp .And [a] pos) t := pw_and1 ha
theorem sw_or1 (ha : STT X W a t) : SW X W (.BoolOp .Or [a] pos) t := pw_or1 ha
theorem sw_and (ha : STT X W a t) (hb : SW X W (.BoolOp .And (b :: rest) pos) u) : SW X W (.BoolOp .And (a :: b :: rest) pos) (an t u) := PW.weak (pw_and ha hb) fun σ H Q ⟨G, ρ, R, p⟩ => by
  refine ⟨G, ρ, R, ?_⟩
  revert p
  unfold an
  cases t ρ with
  | st => exact id
  | ex c => exact id
  | ok d =>
    intro p G1 H1 x1
    have p := PostT.imp x1 p fun _ _ q => q
    cases d with
    | true => exact ⟨G1, ρ, R.ext x1, p⟩
    | false => exact p G1 H1 (.refl x1.gh)
theorem sw_or (ha : STT X W a t) (hb : SW X W (.BoolOp .Or (b :: rest) pos) u) : SW X W (.BoolOp .Or (a :: b :: rest) pos) (orr t u) := PW.weak (pw_or ha hb) fun σ H Q ⟨G, ρ, R, p⟩ => by
  refine ⟨G, ρ, R, ?_⟩
  revert p
  unfold orr
  cases t ρ with
  | st => exact id
  | ex c => exact id
  | ok d =>
    intro p G1 H1 x1
    have p := PostT.imp x1 p fun _ _ q => q
    cases d with
    | true => exact p G1 H1 (.refl x1.gh)
    | false => exact ⟨G1, ρ, R.ext x1, p⟩
theorem st_of (h : SW X W a t) : STT X W a t := PW.pt h
def anV (f g : En → Oc D) : En → Oc D := fun ρ => bd (f ρ) fun d => match d with | .bl b => if b then g ρ else .ok (.bl false) | _ => .st
def orV (f g : En → Oc D) : En → Oc D := fun ρ => bd (f ρ) fun d => match d with | .bl b => if b then .ok (.bl true) else g ρ | _ => .st
def ntV (f : En → Oc D) : En → Oc D := fun ρ => bd (f ρ) fun d => match d with | .bl b => .ok (.bl (!b)) | _ => .st
theorem se_one {op} (ha : SE X W a f) : SE X W (.BoolOp op [a] pos) f := pe_one ha
theorem se_and (ha : SE X W a f) (hb : SE X W (.BoolOp .And (b :: rest) pos) g) : SE X W (.BoolOp .And (a :: b :: rest) pos) (anV f g) := PE.weak (pe_and ha hb) fun σ H Q ⟨G, ρ, R, p⟩ => by
  refine ⟨G, ρ, R, ?_⟩
  revert p
  unfold anV
  cases f ρ with
  | st => exact id
  | ex c => exact id
  | ok d =>
    simp only [bd_ok]
    cases d with
    | bl k =>
      intro p v G1 H1 x1 r
      cases r
      have p := PostE.imp x1 p fun _ _ q => q
      refine ⟨k, rfl, ?_⟩
      cases k with
      | true => exact ⟨G1, ρ, R.ext x1, p⟩
      | false => exact p.here x1.gh (.bl _)
    | _ => exact fun p => p.elim
theorem se_or (ha : SE X W a f) (hb : SE X W (.BoolOp .Or (b :: rest) pos) g) : SE X W (.BoolOp .Or (a :: b :: rest) pos) (orV f g) := PE.weak (pe_or ha hb) fun σ H Q ⟨G, ρ, R, p⟩ => by
  refine ⟨G, ρ, R, ?_⟩
  revert p
  unfold orV
  cases f ρ with
  | st => exact id
  | ex c => exact id
  | ok d =>
    simp only [bd_ok]
    cases d with
    | bl k =>
      intro p v G1 H1 x1 r
      cases r
      have p := PostE.imp x1 p fun _ _ q => q
      refine ⟨k, rfl, ?_⟩
      cases k with
      | true => exact p.here x1.gh (.bl _)
      | false => exact ⟨G1, ρ, R.ext x1, p⟩
    | _ => exact fun p => p.elim
theorem se_not (ha : SE X W a f) : SE X W (.UnaryOp .Not a pos) (ntV f) := PE.weak (pe_not ha) fun σ H Q ⟨G, ρ, R, p⟩ => by
  refine ⟨G, ρ, R, ?_⟩
  revert p
  unfold ntV
  cases f ρ with
  | st => exact id
  | ex c => exact id
  | ok d =>
    simp only [bd_ok]
    cases d with
    | bl k =>
      intro p v G1 H1 x1 r
      cases r
      have p := PostE.imp x1 p fun _ _ q => q
      exact ⟨k, rfl, p.here x1.gh (.bl _)⟩
    | _ => exact fun p => p.elim
def ifX (t : En → Oc Bool) (f g : En → Oc D) : En → Oc D := fun ρ => bd (t ρ) fun b => if b then f ρ else g ρ
theorem se_if (hc : STT X W c t) (ha : SE X W a f) (hb : SE X W b g) : SE X W (.IfExp c a b pos) (ifX t f g) := PE.weak (pe_ifExp hc ha hb) fun σ H Q ⟨G, ρ, R, p⟩ => by
  refine ⟨G, ρ, R, ?_⟩
  revert p
  unfold ifX
  cases t ρ with
  | st => exact id
  | ex c => exact id
  | ok d =>
    intro p G1 H1 x1
    have p := PostE.imp x1 p fun _ _ q => q
    cases d with
    | true => exact ⟨G1, ρ, R.ext x1, p⟩
    | false => exact ⟨G1, ρ, R.ext x1, p⟩
def tyName : D → Option String
  | .non => some "NoneType"
  | .bl _ => some "bool"
  | .int _ => some "int"
  | .str _ => some "str"
  | _ => none
def isiD (T : String) (d : D) : Oc D := match tyName d with
  | some n => match kitB n T with
    | some b => .ok (.bl b)
    | none => .st
  | none => .st
theorem se_isi {nm : Str} {T : String} {p p2 : Pos} (hg : Gl X "isinstance") (hm : X.mg "isinstance" = none) (hg2 : Gl X nm) (hm2 : X.mg nm = none) (hv : bootBuiltins nm = some (.type T)) (ha : SQ X W a f) (hn : nm ≠ "__name__" := by decide) (hdb : (nm == ("__debug__" : Str)) = false := by decide)
    (he : starEach [a, .Name nm p2] X.env = (false, eval a X.env) :: starEach [.Name nm p2] X.env := by rfl) (he2 : starEach [.Name nm p2] X.env = (false, eval (.Name nm p2) X.env) :: starEach [] X.env := by rfl) (hpl : (backTo pos (starEach [.Name nm p2] X.env)).any (·.1) = false := by rfl) :
    SE X W (.Call (.Name "isinstance" p) [a, .Name nm p2] [] pos) (un (isiD T) f) := by
  refine se_un (r := fun x H Q => rIsi X.K [x, .ty T] H Q) (fun ha => PE.weak (pe_callB call_isi hg hm (by decide +kernel) (pa_cons ha (pa_cons (pe_bltn hg2 hm2 hv (v := .ty T) rfl hn hdb) pa_nil he2) he) (by decide) (by decide) he hpl) fun σ H Q h => h) (fun {G H x d1 Q} s r p => ?_) ha
  unfold isiD at p
  split at p
  · rename_i n hn
    split at p
    · rename_i b hb
      have tx : TyX X.K H x (.type n) := by
        cases d1 with
        | non => cases hn; rw [r.non]; exact .base .non
        | bl k => cases hn; rw [r.bl]; exact .base (.bl _)
        | int k => cases hn; rw [r.int]; exact .base (.int _)
        | str k => cases hn; rw [r.str]; exact .base (.str _)
        | _ => cases hn
      exact ⟨x, .ty T, .type n, .type T, b, rfl, .ty T, tx, kit_ty hb, p.here s (.bl _)⟩
    · exact p.elim
  · exact p.elim
end
end Fx

set_option Elab.async false
set_option linter.all false
set_option maxRecDepth 100000
set_option maxHeartbeats 4000000
/-! Fx4: statements, loops, comprehensions, defs. -/
namespace Fx
open PySem PySem.Spec PyProof.Rows L2
variable {K : PySem.W.Frag} {mg : Str → Option Value}

inductive Res where
  | nx (ρ : En) | rt (d : D) | bk (ρ : En) | ct (ρ : En)

structure Bs (K : PySem.W.Frag) (mg : Str → Option Value) (me : Addr) (G0 H0 G H : Hp) (ρ : En) (σ : L2.St) : Prop where
  rel : Rel K mg G H ρ σ
  ext : Ext G0 H0 G H
  own : ∀ (i : Nat) (a : Addr) (d : D), ρ[i]? = some (.ow d) → σ[i]? = some (some (.ref a)) → H0 a = none
  self : ∀ (i : Nat) (c : Str) (ds : List (Str × D)), ρ[i]? = some (.ow (.obj c ds)) → σ[i]? = some (some (.ref me))
variable {me : Addr}
theorem Bs.step {G0 H0 G H G' H' : Hp} {ρ : En} {σ : L2.St} (B : Bs K mg me G0 H0 G H ρ σ) (x : Ext G H G' H') : Bs K mg me G0 H0 G' H' ρ σ := ⟨B.rel.ext x, B.ext.trans x, B.own, B.self⟩
def PostS (K : PySem.W.Frag) (mg : Str → Option Value) (W : XK) (me : Addr) (G0 H0 : Hp) (D : Ends) : Oc Res → Prop
  | .st => False
  | .ok (.nx ρ) => ∀ σ G H, Bs K mg me G0 H0 G H ρ σ → D.nx σ H
  | .ok (.rt d) => ∀ v G H, Ext G0 H0 G H → Rep K mg G v d → D.rt v H
  | .ok (.bk ρ) => ∀ σ G H, Bs K mg me G0 H0 G H ρ σ → D.bk σ H
  | .ok (.ct ρ) => ∀ σ G H, Bs K mg me G0 H0 G H ρ σ → D.ct σ H
  | .ex c => ∀ C G H, Ext G0 H0 G H → mg c = some (.ref C) → W (.ref C) none H
def tS (K : PySem.W.Frag) (mg : Str → Option Value) (W : XK) (g : En → Oc Res) : TS := fun D σ H => ∃ G ρ me G0 H0, Bs K mg me G0 H0 G H ρ σ ∧ PostS K mg W me G0 H0 D (g ρ)
abbrev SS (X : Cx) (W : XK) (st : Stmt) (g : En → Oc Res) : Prop := PS X st (tS X.K X.mg W g)
abbrev SSs (X : Cx) (W : XK) (st : List Stmt) (g : En → Oc Res) : Prop := PSs X st (tS X.K X.mg W g)

section
variable {X : Cx} {W : XK} {a b c e : Expr} {es : List Expr} {f g h : En → Oc D} {fs : En → Oc (List D)} {pos : Pos} {st : Stmt} {sts sts2 : List Stmt} {gs hs : En → Oc Res} {t : En → Oc Bool}

def sNx : En → Oc Res := fun ρ => .ok (.nx ρ)
def sBk : En → Oc Res := fun ρ => .ok (.bk ρ)
def sCt : En → Oc Res := fun ρ => .ok (.ct ρ)
def sq (g h : En → Oc Res) : En → Oc Res := fun ρ => bd (g ρ) fun r => match r with | .nx ρ' => h ρ' | r => .ok r
theorem ss_nil : SSs X W [] sNx := PSs.weak pss_nil fun D σ H ⟨G, ρ, me, G0, H0, B, p⟩ => p σ G H B
theorem ss_pass : SS X W (.Pass pos) sNx := PS.weak ps_pass fun D σ H ⟨G, ρ, me, G0, H0, B, p⟩ => p σ G H B
theorem ss_bk : SS X W (.Break pos) sBk := PS.weak ps_break fun D σ H ⟨G, ρ, me, G0, H0, B, p⟩ => p σ G H B
theorem ss_ct : SS X W (.Continue pos) sCt := PS.weak ps_continue fun D σ H ⟨G, ρ, me, G0, H0, B, p⟩ => p σ G H B
theorem ss_one (h : SS X W st gs) : SSs X W [st] gs := pss_one h
theorem ss_cons (h1 : SS X W st gs) (h2 : SSs X W sts hs) : SSs X W (st :: sts) (sq gs hs) := PSs.weak (pss_cons h1 h2) fun D σ H ⟨G, ρ, me, G0, H0, B, p⟩ => by
  refine ⟨G, ρ, me, G0, H0, B, ?_⟩
  revert p
  unfold sq
  cases gs ρ with
  | st => exact id
  | ex c => exact id
  | ok r =>
    cases r with
    | nx ρ' => exact fun p σ' G' H' B' => ⟨G', ρ', me, G0, H0, B', p⟩
    | rt d => exact id
    | bk ρ' => exact id
    | ct ρ' => exact id
def frz (i : Nat) (g : En → Oc Res) : En → Oc Res := fun ρ => g (freeze i ρ)
theorem Bs.freeze {G0 H0 G H : Hp} {ρ : En} {σ : L2.St} (B : Bs K mg me G0 H0 G H ρ σ) (i : Nat) : ∃ G', Bs K mg me G0 H0 G' H (freeze i ρ) σ := by
  unfold Fx.freeze
  cases q : ρ[i]? with
  | none => exact ⟨G, B⟩
  | some s =>
    cases s with
    | no => exact ⟨G, B⟩
    | sh d => exact ⟨G, B⟩
    | ow d =>
      obtain ⟨a, G', ha, ga, ⟨o, ho, rfl⟩, rp, R⟩ := B.rel.freeze i q
      have h0 : H0 a = none := B.own i a d q ha
      refine ⟨upd G a o, R, ⟨B.ext.hh, fun b u e => ?_, R.sub, fun b u h g => ?_⟩, fun j b d' h1 h2 => ?_, fun j c ds h1 => ?_⟩
      · rw [upd_ne (ne_of_none (B.ext.gg _ _ e) ga)]; exact B.ext.gg _ _ e
      · rw [upd_ne (ne_of_none h h0)]; exact B.ext.nc b u h g
      · by_cases hj : i = j
        · subst hj
          rw [List.getElem?_set_self (List.getElem?_eq_some_iff.mp q).1] at h1
          cases h1
        · rw [List.getElem?_set_ne hj] at h1
          exact B.own j b d' h1 h2
      · by_cases hj : i = j
        · subst hj
          rw [List.getElem?_set_self (List.getElem?_eq_some_iff.mp q).1] at h1
          cases h1
        · rw [List.getElem?_set_ne hj] at h1
          exact B.self j c ds h1
theorem ss_frz (i : Nat) (h : SS X W st gs) : SS X W st (frz i gs) := PS.weak h fun D σ H ⟨G, ρ, me, G0, H0, B, p⟩ => by
  obtain ⟨G', B'⟩ := B.freeze i
  exact ⟨G', _, me, G0, H0, B', p⟩
theorem sss_frz (i : Nat) (h : SSs X W sts gs) : SSs X W sts (frz i gs) := PSs.weak h fun D σ H ⟨G, ρ, me, G0, H0, B, p⟩ => by
  obtain ⟨G', B'⟩ := B.freeze i
  exact ⟨G', _, me, G0, H0, B', p⟩

theorem tE_in {G0 H0 G H : Hp} {ρ : En} {σ : L2.St} {Q : VK} (B : Bs K mg me G0 H0 G H ρ σ) (ho : match f ρ with
    | .st => False
    | .ok d => ∀ v G' H', Bs K mg me G0 H0 G' H' ρ σ → Rep K mg G' v d → Q v H'
    | .ex c => ∀ C G' H', Ext G0 H0 G' H' → mg c = some (.ref C) → W (.ref C) none H') : tE K mg W f σ H Q := by
  refine ⟨G, ρ, B.rel, ?_⟩
  revert ho
  cases f ρ with
  | st => exact id
  | ok d => exact fun p v G' H' x r => p v G' H' (B.step x) r
  | ex c => exact fun p C G' H' x m => p C G' H' (B.ext.trans x) m
theorem tT_in {G0 H0 G H : Hp} {ρ : En} {σ : L2.St} {Q : Bool → Hp → Prop} (B : Bs K mg me G0 H0 G H ρ σ) (ho : match t ρ with
    | .st => False
    | .ok d => ∀ G' H', Bs K mg me G0 H0 G' H' ρ σ → Q d H'
    | .ex c => ∀ C G' H', Ext G0 H0 G' H' → mg c = some (.ref C) → W (.ref C) none H') : tT K mg W t σ H Q := by
  refine ⟨G, ρ, B.rel, ?_⟩
  revert ho
  cases t ρ with
  | st => exact id
  | ok d => exact fun p G' H' x => p G' H' (B.step x)
  | ex c => exact fun p C G' H' x m => p C G' H' (B.ext.trans x) m
def exs (f : En → Oc D) : En → Oc Res := fun ρ => bd (f ρ) fun _ => .ok (.nx ρ)
theorem ss_expr (ha : SE X W a f) (hs : swapsWith a none pos.line X.env = pure false := by rfl) : SS X W (.Expr a pos) (exs f) := PS.weak (ps_expr ha hs) fun D σ H ⟨G, ρ, me, G0, H0, B, p⟩ => by
  refine tE_in B ?_
  revert p
  unfold exs
  cases f ρ with
  | st => exact id
  | ex c => exact id
  | ok d => exact fun p v G' H' B' r => p σ G' H' B'
def ret (f : En → Oc D) : En → Oc Res := fun ρ => bd (f ρ) fun d => .ok (.rt d)
theorem ss_ret (ha : SE X W a f) : SS X W (.Return (some a) pos) (ret f) := PS.weak (ps_ret ha) fun D σ H ⟨G, ρ, me, G0, H0, B, p⟩ => by
  refine tE_in B ?_
  revert p
  unfold ret
  cases f ρ with
  | st => exact id
  | ex c => exact id
  | ok d => exact fun p v G' H' B' r => p v G' H' B'.ext r
def retN : En → Oc Res := fun ρ => .ok (.rt .non)
theorem ss_retN : SS X W (.Return none pos) retN := PS.weak ps_retN fun D σ H ⟨G, ρ, me, G0, H0, B, p⟩ => p .non G H B.ext .non
def iff (t : En → Oc Bool) (g h : En → Oc Res) : En → Oc Res := fun ρ => bd (t ρ) fun b => if b then g ρ else h ρ
theorem ss_if (hc : STT X W c t) (ha : SSs X W sts gs) (hb : SSs X W sts2 hs) : SS X W (.If c sts sts2 pos) (iff t gs hs) := PS.weak (ps_if hc ha hb) fun D σ H ⟨G, ρ, me, G0, H0, B, p⟩ => by
  refine tT_in B ?_
  revert p
  unfold iff
  cases t ρ with
  | st => exact id
  | ex c => exact id
  | ok b =>
    intro p G' H' B'
    cases b with
    | true => exact ⟨G', ρ, me, G0, H0, B', p⟩
    | false => exact ⟨G', ρ, me, G0, H0, B', p⟩

/-! ### assignments -/
def asg (i : Nat) (f : En → Oc D) : En → Oc Res := fun ρ => bd (f ρ) fun d => .ok (.nx (ρ.set i (.sh d)))
def asgO (i : Nat) (f : En → Oc D) : En → Oc Res := fun ρ => bd (f ρ) fun d => match d with | .lst ds => .ok (.nx (ρ.set i (.ow (.lst ds)))) | _ => .st
theorem Bs.set {G0 H0 G H : Hp} {ρ : En} {σ : L2.St} (B : Bs K mg me G0 H0 G H ρ σ) (i : Nat) {v : V} {d : D} (r : Rep K mg G v d) : Bs K mg me G0 H0 G H (ρ.set i (.sh d)) (σ.set i (some v)) := by
  have key : ∀ {j : Nat} {e : D}, (ρ.set i (.sh d))[j]? = some (.ow e) → i ≠ j ∧ ρ[j]? = some (.ow e) := fun {j e} h1 => by
    by_cases hj : i = j
    · subst hj
      have hi : i < (ρ.set i (.sh d)).length := (List.getElem?_eq_some_iff.mp h1).1
      rw [List.getElem?_set_self (by simpa using hi)] at h1
      cases h1
    · rw [List.getElem?_set_ne hj] at h1
      exact ⟨hj, h1⟩
  refine ⟨B.rel.set i r, B.ext, fun j a d' h1 h2 => ?_, fun j c ds h1 => ?_⟩
  · obtain ⟨k1, k2⟩ := key h1
    rw [List.getElem?_set_ne k1] at h2
    exact B.own j a d' k2 h2
  · obtain ⟨k1, k2⟩ := key h1
    rw [List.getElem?_set_ne k1]
    exact B.self j c ds k2
theorem Bs.setO {G0 H0 G1 H1 G H : Hp} {ρ : En} {σ : L2.St} (B : Bs K mg me G0 H0 G1 H1 ρ σ) (x : Ext G1 H1 G H) (i : Nat) {p : Addr} {ds : List D} (hp : H1 p = none) (g : G p = none) (r : OwAt K mg G H p (.lst ds)) : Bs K mg me G0 H0 G H (ρ.set i (.ow (.lst ds))) (σ.set i (some (.ref p))) := by
  refine ⟨(B.rel.ext x).setO i g r fun j e h1 h2 => ?_, B.ext.trans x, fun j a d' h1 h2 => ?_, fun j c fs h1 => ?_⟩
  · obtain ⟨o, ho, a, e2, ga, ow⟩ := B.rel.get h1
    rw [h2] at ho
    cases ho
    cases e2
    obtain ⟨u, hu⟩ := ow.ex
    rw [hp] at hu
    cases hu
  · by_cases hj : i = j
    · subst hj
      have hi : i < σ.length := by simpa using (List.getElem?_eq_some_iff.mp h2).1
      rw [List.getElem?_set_self hi] at h2
      cases h2
      exact B.ext.hh.free hp
    · rw [List.getElem?_set_ne hj] at h1 h2
      exact B.own j a d' h1 h2
  · by_cases hj : i = j
    · subst hj
      have hi : i < (ρ.set i (.ow (.lst ds))).length := (List.getElem?_eq_some_iff.mp h1).1
      rw [List.getElem?_set_self (by simpa using hi)] at h1
      cases h1
    · rw [List.getElem?_set_ne hj] at h1 ⊢
      exact B.self j c fs h1
theorem asg_post {G0 H0 G H : Hp} {ρ : En} {σ : L2.St} {D : Ends} {i : Nat} (B : Bs K mg me G0 H0 G H ρ σ) (p : PostS K mg W me G0 H0 D (asg i f ρ)) : tE K mg W f σ H fun x H1 => gName i x σ H1 D.nx := by
  refine tE_in B ?_
  revert p
  unfold asg
  cases f ρ with
  | st => exact id
  | ex c => exact id
  | ok d => exact fun p v G' H' B' r => p _ G' H' (B'.set i r)
theorem asgO_post {G0 H0 G H : Hp} {ρ : En} {σ : L2.St} {D : Ends} {i : Nat} (B : Bs K mg me G0 H0 G H ρ σ) (p : PostS K mg W me G0 H0 D (asgO i f ρ)) : tF K mg W f σ H fun x H1 => gName i x σ H1 D.nx := by
  refine ⟨G, ρ, B.rel, ?_⟩
  revert p
  unfold asgO
  cases f ρ with
  | st => exact id
  | ex c => exact fun p C G' H' x m => p C G' H' (B.ext.trans x) m
  | ok d =>
    intro p a G' H' x ha ga ow
    simp only [bd_ok] at p
    cases d with
    | lst ds => exact p _ G' H' (B.setO x i ha ga ow)
    | _ => exact p.elim
section
variable {i : Nat} {x : Str} {pos' : Pos}
theorem ss_set (C : Ctx X W) (hi : X.N[i]? = some x) (hx : Loc X.env.scope x) (ha : SE X W a f) (hs : swapsWith a (some (.Name x pos')) pos.line X.env = pure false := by rfl) (hf : X.fn x = true ∨ X.env.scope.names.lookup x = some .local := by first | exact .inl rfl | exact .inr rfl | assumption) :
    SS X W (.Assign [.Name x pos'] a pos) (asg i f) := PS.weak (ps_set C.nd hi hx ha hs hf) fun D σ H ⟨G, ρ, me, G0, H0, B, p⟩ => asg_post B p
theorem ss_setO (C : Ctx X W) (hi : X.N[i]? = some x) (hx : Loc X.env.scope x) (ha : SF X W a f) (hs : swapsWith a (some (.Name x pos')) pos.line X.env = pure false := by rfl) (hf : X.fn x = true ∨ X.env.scope.names.lookup x = some .local := by first | exact .inl rfl | exact .inr rfl | assumption) :
    SS X W (.Assign [.Name x pos'] a pos) (asgO i f) := PS.weak (ps_set C.nd hi hx ha hs hf) fun D σ H ⟨G, ρ, me, G0, H0, B, p⟩ => asgO_post B p
def augA (i : Nat) (f : En → Oc D) : En → Oc Res := fun ρ => bd (vr i ρ) fun d => bd (f ρ) fun e => bd (match d, e with | .int m, .int n => .ok (.int (m + n)) | _, _ => Oc.st) fun z => .ok (.nx (ρ.set i (.sh z)))
theorem ss_augA (C : Ctx X W) (hi : X.N[i]? = some x) (hx : Loc X.env.scope x) (ha : SE X W a f) (hf : X.fn x = true ∨ X.env.scope.names.lookup x = some .local := by first | exact .inl rfl | exact .inr rfl | assumption) :
    SS X W (.AugAssign (.Name x pos') .Add a pos) (augA i f) := PS.weak (ps_aug C.nd hi hx ha ip_add hf) fun D σ H ⟨G, ρ, me, G0, H0, B, p⟩ => by
  revert p
  unfold augA vr
  cases q : ρ[i]? with
  | none => exact fun p => p.elim
  | some s =>
    cases s with
    | no => exact fun p => p.elim
    | ow d => exact fun p => p.elim
    | sh d =>
      intro p
      obtain ⟨o, ho, v, rfl, r⟩ := B.rel.get q
      refine ⟨v, ho, tE_in B ?_⟩
      revert p
      simp only [bd_ok]
      cases f ρ with
      | st => exact id
      | ex c => exact id
      | ok e =>
        intro p u G' H' B' r'
        simp only [bd_ok] at p
        cases d with
        | int m =>
          cases e with
          | int n =>
            cases r
            cases r'
            exact ⟨m, n, rfl, rfl, p _ G' H' (B'.set i (.int _))⟩
          | _ => exact p.elim
        | _ => exact p.elim
def augS (i : Nat) (f : En → Oc D) : En → Oc Res := fun ρ => bd (vr i ρ) fun d => bd (f ρ) fun e => bd (match d, e with | .int m, .int n => .ok (.int (m - n)) | _, _ => Oc.st) fun z => .ok (.nx (ρ.set i (.sh z)))
theorem ss_augS (C : Ctx X W) (hi : X.N[i]? = some x) (hx : Loc X.env.scope x) (ha : SE X W a f) (hf : X.fn x = true ∨ X.env.scope.names.lookup x = some .local := by first | exact .inl rfl | exact .inr rfl | assumption) :
    SS X W (.AugAssign (.Name x pos') .Sub a pos) (augS i f) := PS.weak (ps_aug C.nd hi hx ha ip_sub hf) fun D σ H ⟨G, ρ, me, G0, H0, B, p⟩ => by
  revert p
  unfold augS vr
  cases q : ρ[i]? with
  | none => exact fun p => p.elim
  | some s =>
    cases s with
    | no => exact fun p => p.elim
    | ow d => exact fun p => p.elim
    | sh d =>
      intro p
      obtain ⟨o, ho, v, rfl, r⟩ := B.rel.get q
      refine ⟨v, ho, tE_in B ?_⟩
      revert p
      simp only [bd_ok]
      cases f ρ with
      | st => exact id
      | ex c => exact id
      | ok e =>
        intro p u G' H' B' r'
        simp only [bd_ok] at p
        cases d with
        | int m =>
          cases e with
          | int n =>
            cases r
            cases r'
            exact ⟨m, n, rfl, rfl, p _ G' H' (B'.set i (.int _))⟩
          | _ => exact p.elim
        | _ => exact p.elim
end

/-! ### stores into own objects -/
theorem Bs.chg {G0 H0 G H : Hp} {ρ : En} {σ : L2.St} (B : Bs K mg me G0 H0 G H ρ σ) {i : Nat} {p : Addr} {d d' : D} {o : HO} (h1 : ρ[i]? = some (.ow d)) (h2 : σ[i]? = some (some (.ref p))) (hd : ∀ c ds, d' = .obj c ds → ∃ c2 ds2, d = .obj c2 ds2) (gp : G p = none) (ow : OwAt K mg G (upd H p o) p d') : Bs K mg me G0 H0 G (upd H p o) (ρ.set i (.ow d')) σ := by
  have h0 : H0 p = none := B.own i p d h1 h2
  have s0 : Same G (upd H p o) := fun b u e => by rw [upd_ne (ne_of_none e gp)]; exact B.rel.sub _ _ e
  refine ⟨⟨s0, by simp [B.rel.len], fun j s ov e1 e2 => ?_, fun j k b x y e1 e2 e3 e4 => ?_⟩, ⟨fun b u e => ?_, B.ext.gg, s0, B.ext.nc⟩, fun j b x e1 e2 => ?_, fun j c fs e1 => ?_⟩
  · by_cases hj : i = j
    · subst hj
      rw [List.getElem?_set_self (List.getElem?_eq_some_iff.mp h1).1] at e1
      cases e1
      rw [h2] at e2
      cases e2
      exact ⟨p, rfl, gp, ow⟩
    · rw [List.getElem?_set_ne hj] at e1
      have q := B.rel.at_ j s ov e1 e2
      cases s with
      | no => trivial
      | sh x => exact q
      | ow x =>
        obtain ⟨b, e, gb, r⟩ := q
        subst e
        refine ⟨b, rfl, gb, r.same (.refl _) fun u hu => ?_⟩
        rw [upd_ne fun z => hj (B.rel.apart i j p d x h1 e1 h2 (by rw [e2, z]))]
        exact hu
  · have key : ∀ {m : Nat} {z : D}, (ρ.set i (.ow d'))[m]? = some (.ow z) → ∃ z', ρ[m]? = some (.ow z') := fun {m z} e => by
      by_cases hm : i = m
      · exact ⟨d, by rw [← hm]; exact h1⟩
      · rw [List.getElem?_set_ne hm] at e; exact ⟨z, e⟩
    obtain ⟨x', e1'⟩ := key e1
    obtain ⟨y', e2'⟩ := key e2
    exact B.rel.apart j k b x' y' e1' e2' e3 e4
  · rw [upd_ne (ne_of_none e h0)]
    exact B.ext.hh _ _ e
  · by_cases hj : i = j
    · subst hj
      rw [h2] at e2
      cases e2
      exact h0
    · rw [List.getElem?_set_ne hj] at e1
      exact B.own j b x e1 e2
  · by_cases hj : i = j
    · subst hj
      rw [List.getElem?_set_self (List.getElem?_eq_some_iff.mp h1).1] at e1
      cases e1
      obtain ⟨c2, ds2, e⟩ := hd _ _ rfl
      subst e
      exact B.self i c2 ds2 h1
    · rw [List.getElem?_set_ne hj] at e1
      exact B.self j c fs e1
def app (i : Nat) (f : En → Oc D) : En → Oc Res := fun ρ => match ρ[i]? with
  | some (.ow (.lst _)) => bd (f ρ) fun d => (match ρ[i]? with
    | some (.ow (.lst ds)) => chk (decide (ds.length < sizeLine)) (.ok (.nx (ρ.set i (.ow (.lst (ds ++ [d]))))))
    | _ => .st)
  | _ => .st
theorem ss_app {i : Nat} {x : Str} {p1 apos cpos : Pos} (hv : PE X (.Name x p1) (tVar i)) (ha : SE X W a f)
    (hbase : attributeBase (.Name x p1) "append" X.env (eval (.Name x p1) X.env) = eval (.Name x p1) X.env := by rfl)
    (hfew : ((backTo cpos (starEach [a] X.env)).all (fun x => !x.1) && (backToKw cpos (keywordEach [] X.env)).all (fun x => x.1.isSome)
      && decide (([a] : List Expr).length + ([] : List Keyword).length + (if ([] : List Keyword).isEmpty then 0 else 1) < 30)) = true := by rfl)
    (hline : (apos.endLine == cpos.line) = true := by rfl) (hs : starEach [a] X.env = (false, eval a X.env) :: starEach [] X.env := by rfl) (hplain : (backTo cpos (starEach [] X.env)).any (·.1) = false := by rfl)
    (hsw : swapsWith (.Call (.Attribute (.Name x p1) "append" apos) [a] [] cpos) none pos.line X.env = pure false := by rfl) :
    SS X W (.Expr (.Call (.Attribute (.Name x p1) "append" apos) [a] [] cpos) pos) (app i f) :=
  PS.weak (ps_expr (pe_bm PySem.F.plainAttrs_list PySem.F.slot_list_append PySem.F.type_list_append mt_append hv (pa_cons ha pa_nil hs) hbase hfew hline hs hplain) hsw) fun D σ H ⟨G, ρ, me, G0, H0, B, p⟩ => by
  revert p
  unfold app
  cases q : ρ[i]? with
  | none => exact fun p => p.elim
  | some s =>
    cases s with
    | no => exact fun p => p.elim
    | sh d => exact fun p => p.elim
    | ow d =>
      cases d with
      | lst ds =>
        intro p
        obtain ⟨o, ho, l, rfl, gl, xs, hl, rl⟩ := B.rel.get q
        refine ⟨.ref l, ho, .inl ⟨rfl, _, SqL.of hl⟩, tE_in B ?_⟩
        revert p
        simp only
        cases f ρ with
        | st => exact id
        | ex c => exact id
        | ok d =>
          intro p v G' H' B' r
          simp only [bd_ok] at p
          have p2 : decide (ds.length < sizeLine) = true ∧ PostS X.K X.mg W me G0 H0 D (.ok (.nx (ρ.set i (.ow (.lst (ds ++ [d])))))) := chk_some (P := PostS X.K X.mg W me G0 H0 D) (fun z => z) p
          obtain ⟨o2, ho2, l2, e2, gl2, xs2, hl2, rl2⟩ := B'.rel.get q
          rw [ho] at ho2
          cases ho2
          cases e2
          exact ⟨l, xs2, v, rfl, rfl, hl2, by rw [rl2.length]; exact of_decide_eq_true p2.1, p2.2 σ G' _ (B'.chg q ho (fun _ _ z => by cases z) gl2 ⟨_, upd_same, rl2.append (.cons r .nil)⟩)⟩
      | _ => exact fun p => p.elim
def putD (n : Str) (d : D) : List (Str × D) → List (Str × D)
  | [] => [(n, d)]
  | (m, x) :: r => if m = n then (m, d) :: r else (m, x) :: putD n d r
theorem RepF.put {G : Hp} {n : Str} {v : V} {d : D} (rv : Rep K mg G v d) : ∀ {fs : List (Str × V)} {ds : List (Str × D)}, RepF K mg G fs ds → RepF K mg G (putF n v fs) (putD n d ds)
  | _, _, .nil => .cons rv .nil
  | _, _, .cons (n := m) r t => by
    unfold putF putD
    by_cases h : m = n
    · rw [if_pos h, if_pos h]; exact .cons rv t
    · rw [if_neg h, if_neg h]; exact .cons r (RepF.put rv t)
def setF (i : Nat) (cs : List Str) (n : Str) (f : En → Oc D) : En → Oc Res := fun ρ => bd (f ρ) fun d => match ρ[i]? with
  | some (.ow (.obj c fs)) => chk (decide (c ∈ cs) && decide (fs.length < 1000)) (.ok (.nx (ρ.set i (.ow (.obj c (putD n d fs))))))
  | _ => .st
theorem ss_setF {i : Nat} {x n : Str} {p1 pos' : Pos} {cs : List Str} (hc : ∀ c ∈ cs, ClsA X.K X.mg n c) (hv : PE X (.Name x p1) (tVar i)) (ha : SE X W a f) (hs : swapsWith a (some (.Attribute (.Name x p1) n pos')) pos.line X.env = pure false := by rfl) :
    SS X W (.Assign [.Attribute (.Name x p1) n pos'] a pos) (setF i cs n f) := PS.weak (ps_fld hv ha hs) fun D σ H ⟨G, ρ, me, G0, H0, B, p⟩ => by
  refine tE_in B ?_
  revert p
  unfold setF
  cases f ρ with
  | st => exact id
  | ex c => exact id
  | ok d =>
    intro p v G' H' B' r
    simp only [bd_ok] at p
    revert p
    cases q : ρ[i]? with
    | none => exact fun p => p.elim
    | some s =>
      cases s with
      | no => exact fun p => p.elim
      | sh d => exact fun p => p.elim
      | ow d2 =>
        cases d2 with
        | obj c fs =>
          intro p
          have p2 : (decide (c ∈ cs) && decide (fs.length < 1000)) = true ∧ PostS X.K X.mg W me G0 H0 D (.ok (.nx (ρ.set i (.ow (.obj c (putD n d fs)))))) := chk_some (P := PostS X.K X.mg W me G0 H0 D) (fun z => z) p
          rw [Bool.and_eq_true, decide_eq_true_eq, decide_eq_true_eq] at p2
          obtain ⟨o, ho, l, rfl, gl, C, dx, vs, m, hl, rl⟩ := B'.rel.get q
          obtain ⟨k1, k2⟩ := hc c p2.1.1 C m
          exact ⟨.ref l, ho, l, C, dx, vs, rfl, hl, k1, k2, by rw [rl.length]; exact p2.1.2, p2.2 σ G' _ (B'.chg q ho (fun _ _ _ => ⟨_, _, rfl⟩) gl ⟨C, dx, _, m, upd_same, rl.put r⟩)⟩
        | _ => exact fun p => p.elim
end
end Fx

set_option Elab.async false
set_option linter.all false
set_option maxRecDepth 100000
set_option maxHeartbeats 4000000
/-! Fx5: loops, comprehensions, defs. -/
namespace Fx
open PySem PySem.Spec PyProof.Rows L2
variable {K : PySem.W.Frag} {mg : Str → Option Value} {me : Addr}

/-! ### targets -/
inductive Tg where
  | one (i : Nat) | tup (is : List Nat)
def setE : List Nat → List D → En → En
  | i :: is, d :: ds, ρ => setE is ds (ρ.set i (.sh d))
  | _, _, ρ => ρ
def setV : List Nat → List V → L2.St → L2.St
  | i :: is, v :: vs, σ => setV is vs (σ.set i (some v))
  | _, _, σ => σ
def bindT : Tg → D → En → Oc En
  | .one i, d, ρ => .ok (ρ.set i (.sh d))
  | .tup is, .tup ds, ρ => chk (decide (ds.length = is.length)) (.ok (setE is ds ρ))
  | _, _, _ => .st
def gNames : List Nat → TGs
  | [] => gNil
  | i :: is => gCons (gName i) (gNames is)
def gT (K : PySem.W.Frag) : Tg → TG
  | .one i => gName i
  | .tup is => gTup K is.length (gNames is)
abbrev ST (X : Cx) (e : Expr) (T : Tg) : Prop := PG X e (gT X.K T)
def Tg.slots : Tg → List Nat
  | .one i => [i]
  | .tup is => is
def setT : Tg → V → List V → L2.St → L2.St
  | .one i, v, _, σ => σ.set i (some v)
  | .tup is, _, vs, σ => setV is vs σ
theorem gNames_in : ∀ {is : List Nat} {vs : List V} {σ : L2.St} {H : Hp} {Q : L2.St → Hp → Prop}, vs.length = is.length → Q (setV is vs σ) H → gNames is vs σ H Q
  | [], [], _, _, _, _, q => ⟨rfl, q⟩
  | i :: is, v :: vs, σ, H, Q, h, q => ⟨v, vs, rfl, gNames_in (by simpa using h) q⟩
theorem gT_in {G H : Hp} {T : Tg} {v : V} {d : D} {ρ ρ' : En} {σ : L2.St} {Q : L2.St → Hp → Prop} (s : Same G H) (r : Rep K mg G v d) (h : bindT T d ρ = .ok ρ') (q : ∀ vs ds, (match T with | .one _ => True | .tup is => d = .tup ds ∧ vs.length = is.length ∧ RepL K mg G vs ds ∧ ρ' = setE is ds ρ) → Q (setT T v vs σ) H) : gT K T v σ H Q := by
  cases T with
  | one i => exact q [] [] trivial
  | tup is =>
    cases d with
    | tup ds =>
      cases r with
      | tup hs rl =>
        rename_i a xs
        have h : chk (decide (ds.length = is.length)) (.ok (setE is ds ρ)) = .ok ρ' := h
        by_cases hl : ds.length = is.length
        · rw [decide_eq_true hl] at h
          cases h
          have e : xs.length = is.length := by rw [rl.length]; exact hl
          exact ⟨a, xs, rfl, SqT.same s hs, e, gNames_in e (q xs ds ⟨rfl, e, rl, rfl⟩)⟩
        · rw [decide_eq_false hl] at h
          cases h
    | _ => cases h
theorem Bs.setV {G0 H0 G H : Hp} : ∀ {is : List Nat} {vs : List V} {ds : List D} {ρ : En} {σ : L2.St}, Bs K mg me G0 H0 G H ρ σ → RepL K mg G vs ds → Bs K mg me G0 H0 G H (setE is ds ρ) (Fx.setV is vs σ)
  | [], _, _, _, _, B, _ => B
  | i :: is, _, _, _, _, B, .nil => B
  | i :: is, _, _, _, _, B, .cons r t => Bs.setV (is := is) (B.set i r) t
theorem Rel.setV {G H : Hp} : ∀ {is : List Nat} {vs : List V} {ds : List D} {ρ : En} {σ : L2.St}, Rel K mg G H ρ σ → RepL K mg G vs ds → Rel K mg G H (setE is ds ρ) (Fx.setV is vs σ)
  | [], _, _, _, _, B, _ => B
  | i :: is, _, _, _, _, B, .nil => B
  | i :: is, _, _, _, _, B, .cons r t => Rel.setV (is := is) (B.set i r) t
theorem gT_bs {G0 H0 G H : Hp} {T : Tg} {v : V} {d : D} {ρ ρ' : En} {σ : L2.St} {Q : L2.St → Hp → Prop} (B : Bs K mg me G0 H0 G H ρ σ) (r : Rep K mg G v d) (h : bindT T d ρ = .ok ρ') (q : ∀ σ', Bs K mg me G0 H0 G H ρ' σ' → Q σ' H) : gT K T v σ H Q := by
  refine gT_in B.rel.sub r h fun vs ds c => q _ ?_
  cases T with
  | one i => cases h; exact B.set i r
  | tup is =>
    obtain ⟨_, _, rl, e⟩ := c
    subst e
    exact B.setV rl
theorem gT_rel {G H : Hp} {T : Tg} {v : V} {d : D} {ρ ρ' : En} {σ : L2.St} {Q : L2.St → Hp → Prop} (R : Rel K mg G H ρ σ) (r : Rep K mg G v d) (h : bindT T d ρ = .ok ρ') (q : ∀ vs, Rel K mg G H ρ' (setT T v vs σ) → Q (setT T v vs σ) H) : gT K T v σ H Q := by
  refine gT_in R.sub r h fun vs ds c => q _ ?_
  cases T with
  | one i => cases h; exact R.set i r
  | tup is =>
    obtain ⟨_, _, rl, e⟩ := c
    subst e
    exact R.setV rl

/-! ### what is walked -/
structure Yld (K : PySem.W.Frag) (mg : Str → Option Value) (J : It) (G' : Hp) (ds : List D) : Prop where
  go : ∀ (i : Nat) G H, i < ds.length → Same G' G → Same G H → J.go i H
  stop : ∀ G H, Same G' G → Same G H → J.stop ds.length H
  yld : ∀ (i : Nat) d x G H H', ds[i]? = some d → Same G' G → Same G H → J.yld i H x H' → ∃ G2, Ext G H G2 H' ∧ Rep K mg G2 x d
def PostI (K : PySem.W.Frag) (mg : Str → Option Value) (W : XK) (G H : Hp) (R : It → Hp → Prop) : Oc (List D) → Prop
  | .st => False
  | .ok ds => ∀ J G' H', Ext G H G' H' → Yld K mg J G' ds → R J H'
  | .ex c => ∀ C G' H', Ext G H G' H' → mg c = some (.ref C) → W (.ref C) none H'
def tI (K : PySem.W.Frag) (mg : Str → Option Value) (W : XK) (f : En → Oc (List D)) : TI := fun σ H R => ∃ G ρ, Rel K mg G H ρ σ ∧ PostI K mg W G H R (f ρ)
abbrev SI (X : Cx) (W : XK) (tg e : Expr) (f : En → Oc (List D)) : Prop := PI X tg e (tI X.K X.mg W f)
theorem PI.weak {X : Cx} {tg e : Expr} {t u : TI} (h : PI X tg e t) (w : ∀ σ H Q, u σ H Q → t σ H Q) : PI X tg e u := ⟨fun pins s σ H Q I q => h.run pins s σ H Q I (w _ _ _ q)⟩

section
variable {X : Cx} {W : XK} {a b c e tg it : Expr} {es : List Expr} {f g h : En → Oc D} {fs : En → Oc (List D)} {pos : Pos} {st : Stmt} {sts sts2 : List Stmt} {gs hs : En → Oc Res} {t : En → Oc Bool}

def iSeq (K : PySem.W.Frag) (tl : TE) : TI := fun σ H R => tl σ H fun x H1 => ∃ a, x = .ref a ∧ ((∃ xs, SqL K H1 a xs ∧ R (Itl K a) H1) ∨ (∃ xs, SqT K H1 a xs ∧ R (Itt K a) H1))
theorem pi_seq {l : Expr} {tl : TE} (hl : PE X l tl) : PI X tg l (iSeq X.K tl) := by
  refine ⟨fun pins s σ H R I h => ?_⟩
  refine thn (hl.run pins s σ H _ I h) fun v s1 ⟨x, H1, I1, r1, q1⟩ => ?_
  obtain ⟨a, e, q1⟩ := q1
  subst e
  cases r1
  rcases q1 with ⟨xs, hq, q⟩ | ⟨xs, hq, q⟩
  · obtain ⟨its, rv, p, hz⟩ := I1.list hq
    refine wpAny_pyIter_list p.isList ?_
    refine ⟨s1.heap.objs.size, [s1.heap.objs.size], _, _, H1, rfl, I1.kept (t' := s1.toks) fun b o e => Heap.get?_push_of_some _ e, turn_list a _, ⟨_, Heap.get?_push_size _ rfl, rfl, rfl⟩, fun b hb => ?_, q⟩
    have e : b = s1.heap.objs.size := by simpa using hb
    subst e
    exact I1.fpOk (Nat.le_refl _) (I1.hok.fresh (Nat.le_refl _))
  · obtain ⟨its, rv, p, hz⟩ := I1.tuple hq
    refine wpAny_pyIter_tuple (show s1.heap.IsTuple a its.toArray from p) ?_
    refine ⟨s1.heap.objs.size, [s1.heap.objs.size], _, _, H1, rfl, I1.kept (t' := s1.toks) fun b o e => Heap.get?_push_of_some _ e, turn_tuple a _, ⟨_, Heap.get?_push_size _ rfl, rfl, rfl⟩, fun b hb => ?_, q⟩
    have e : b = s1.heap.objs.size := by simpa using hb
    subst e
    exact I1.fpOk (Nat.le_refl _) (I1.hok.fresh (Nat.le_refl _))
theorem yld_list {G' : Hp} {a : Addr} {xs : List V} {ds : List D} (h : SqL K G' a xs) (r : RepL K mg G' xs ds) : Yld K mg (Itl K a) G' ds := by
  refine ⟨fun i G H hi s1 s2 => ?_, fun G H s1 s2 => ?_, fun i d x G H H' hd s1 s2 y => ?_⟩
  · have hi2 : i < xs.length := by rw [r.length]; exact hi
    exact ⟨xs, xs[i], s2.seq (s1.seq h), by simp [hi2]⟩
  · exact ⟨xs, s2.seq (s1.seq h), by rw [r.length]; exact Nat.le_refl _⟩
  · obtain ⟨e, y⟩ := y
    subst e
    obtain ⟨v, hv, rv⟩ := r.get hd
    have q := y xs (s2.seq (s1.seq h))
    rw [hv] at q
    cases q
    exact ⟨G, .refl s2, rv.same s1⟩
theorem yld_tup {G' : Hp} {a : Addr} {xs : List V} {ds : List D} (h : SqT K G' a xs) (r : RepL K mg G' xs ds) : Yld K mg (Itt K a) G' ds := by
  refine ⟨fun i G H hi s1 s2 => ?_, fun G H s1 s2 => ?_, fun i d x G H H' hd s1 s2 y => ?_⟩
  · have hi2 : i < xs.length := by rw [r.length]; exact hi
    exact ⟨xs, xs[i], SqT.same s2 (SqT.same s1 h), by simp [hi2]⟩
  · exact ⟨xs, SqT.same s2 (SqT.same s1 h), by rw [r.length]; exact Nat.le_refl _⟩
  · obtain ⟨e, y⟩ := y
    subst e
    obtain ⟨v, hv, rv⟩ := r.get hd
    have q := y xs (SqT.same s2 (SqT.same s1 h))
    rw [hv] at q
    cases q
    exact ⟨G, .refl s2, rv.same s1⟩
def itm (f : En → Oc D) : En → Oc (List D) := fun ρ => bd (f ρ) fun d => match items d with | some ds => .ok ds | none => .st
theorem si_seq (ha : SE X W it f) : SI X W tg it (itm f) := PI.weak (pi_seq ha) fun σ H Q ⟨G, ρ, R, p⟩ => by
  refine ⟨G, ρ, R, ?_⟩
  revert p
  unfold itm
  cases f ρ with
  | st => exact id
  | ex c => exact id
  | ok d =>
    intro p v G1 H1 x1 r
    simp only [bd_ok] at p
    cases d with
    | lst ds =>
      cases r with
      | lst h r => exact ⟨_, rfl, .inl ⟨_, SqL.of (x1.gh _ _ h), p _ G1 H1 x1 (yld_list (SqL.of h) r)⟩⟩
    | tup ds =>
      cases r with
      | tup h r => exact ⟨_, rfl, .inr ⟨_, SqT.same x1.gh h, p _ G1 H1 x1 (yld_tup h r)⟩⟩
    | fz ds =>
      cases r with
      | fz h r => exact ⟨_, rfl, .inl ⟨_, x1.gh.seq h, p _ G1 H1 x1 (yld_list h r)⟩⟩
    | _ => exact p.elim
def rngL (lo : Int) (n : Nat) : List D := (List.range n).map fun i => .int (lo + (i : Nat))
theorem yld_rng {G' : Hp} {lo : Int} {n : Nat} : Yld K mg (Itr lo n) G' (rngL lo n) := by
  have hl : (rngL lo n).length = n := by simp [rngL]
  refine ⟨fun i G H hi s1 s2 => ?_, fun G H s1 s2 => ?_, fun i d x G H H' hd s1 s2 y => ?_⟩
  · show i < n
    rw [← hl]; exact hi
  · show n ≤ _
    rw [hl]; exact Nat.le_refl _
  · obtain ⟨e, y⟩ := y
    subst e y
    have hi : i < n := by rw [← hl]; exact (List.getElem?_eq_some_iff.mp hd).1
    unfold rngL at hd
    rw [List.getElem?_map, List.getElem?_range hi] at hd
    cases hd
    exact ⟨G, .refl s2, .int _⟩
def rng1 (fs : En → Oc (List D)) : En → Oc (List D) := fun ρ => bd (fs ρ) fun ds => match ds with | [.int j] => chk (decide (-(2 ^ 62) ≤ j ∧ j < 2 ^ 62)) (.ok (rngL 0 j.toNat)) | _ => .st
def rng2 (fs : En → Oc (List D)) : En → Oc (List D) := fun ρ => bd (fs ρ) fun ds => match ds with | [.int i, .int j] => chk (decide (-(2 ^ 62) ≤ i ∧ i < 2 ^ 62 ∧ -(2 ^ 62) ≤ j ∧ j < 2 ^ 62)) (.ok (rngL i (j - i).toNat)) | _ => .st
theorem si_rng1 {p : Pos} (hg : Gl X "range") (hm : X.mg "range" = none) (ha : SA X W [a] fs) (hs : starEach [a] X.env = [(false, eval a X.env)] := by rfl) : SI X W tg (.Call (.Name "range" p) [a] [] pos) (rng1 fs) := PI.weak (pi_range1 hg hm ha hs) fun σ H Q ⟨G, ρ, R, p⟩ => by
  refine ⟨G, ρ, R, ?_⟩
  revert p
  unfold rng1
  cases fs ρ with
  | st => exact id
  | ex c => exact id
  | ok ds =>
    intro p vs G1 H1 x1 r
    simp only [bd_ok] at p
    split at p
    · rename_i j
      cases r with
      | cons r r2 =>
        cases r
        cases r2
        obtain ⟨c, p⟩ := chk_some (P := PostI X.K X.mg W G H Q) (fun z => z) p
        obtain ⟨c1, c2⟩ := of_decide_eq_true c
        exact ⟨j, rfl, c1, c2, p _ G1 H1 x1 yld_rng⟩
    · exact p.elim
theorem si_rng2 {p : Pos} (hg : Gl X "range") (hm : X.mg "range" = none) (ha : SA X W [a, b] fs) (hs : starEach [a, b] X.env = [(false, eval a X.env), (false, eval b X.env)] := by rfl) (hs2 : starEach [b] X.env = [(false, eval b X.env)] := by rfl) : SI X W tg (.Call (.Name "range" p) [a, b] [] pos) (rng2 fs) := PI.weak (pi_range2 hg hm ha hs hs2) fun σ H Q ⟨G, ρ, R, p⟩ => by
  refine ⟨G, ρ, R, ?_⟩
  revert p
  unfold rng2
  cases fs ρ with
  | st => exact id
  | ex c => exact id
  | ok ds =>
    intro p vs G1 H1 x1 r
    simp only [bd_ok] at p
    split at p
    · rename_i i j
      cases r with
      | cons r r2 =>
        cases r
        cases r2 with
        | cons r r2 =>
          cases r
          cases r2
          obtain ⟨c, p⟩ := chk_some (P := PostI X.K X.mg W G H Q) (fun z => z) p
          exact ⟨i, j, rfl, of_decide_eq_true c, p _ G1 H1 x1 yld_rng⟩
    · exact p.elim

/-! ### for -/
theorem Ext.base {G0 H0 G1 H1 G H : Hp} (x : Ext G0 H0 G1 H1) (y : Ext G1 H0 G H) : Ext G0 H0 G H := ⟨y.hh, x.gg.trans y.gg, y.gh, fun a o h g => y.nc a o h (x.nc a o h g)⟩
theorem Ext.rebase {G0 H0 G1 G H : Hp} (s : Same G0 G1) (y : Ext G0 H0 G H) (z : Same G1 G) : Ext G1 H0 G H := ⟨y.hh, z, y.gh, fun a o h g => y.nc a o h (s.free g)⟩
theorem Bs.base {G0 H0 G1 H1 G H : Hp} {ρ : En} {σ : L2.St} (x : Ext G0 H0 G1 H1) (B : Bs K mg me G1 H0 G H ρ σ) : Bs K mg me G0 H0 G H ρ σ := ⟨B.rel, x.base B.ext, B.own, B.self⟩
theorem Bs.rebase {G0 H0 G1 G H : Hp} {ρ : En} {σ : L2.St} (s : Same G0 G1) (B : Bs K mg me G0 H0 G H ρ σ) (z : Same G1 G) : Bs K mg me G1 H0 G H ρ σ := ⟨B.rel, B.ext.rebase s z, B.own, B.self⟩
def forL (T : Tg) (body : En → Oc Res) : List D → En → Oc Res
  | [], ρ => .ok (.nx ρ)
  | d :: ds, ρ => bd (bindT T d ρ) fun ρ1 => bd (body ρ1) fun r => match r with
    | .nx ρ2 => forL T body ds ρ2
    | .ct ρ2 => forL T body ds ρ2
    | .bk ρ2 => .ok (.nx ρ2)
    | .rt d => .ok (.rt d)
def fr (T : Tg) (src : En → Oc (List D)) (body : En → Oc Res) : En → Oc Res := fun ρ => bd (src ρ) fun ds => forL T body ds ρ
theorem bindT_ex {T : Tg} {d : D} {ρ : En} {c : Str} : bindT T d ρ ≠ .ex c := by
  intro h
  cases T with
  | one i => cases h
  | tup is =>
    cases d with
    | tup ds =>
      have h : chk (decide (ds.length = is.length)) (.ok (setE is ds ρ)) = .ex c := h
      cases hb : decide (ds.length = is.length) with
      | true => rw [hb] at h; cases h
      | false => rw [hb] at h; cases h
    | _ => cases h
theorem ss_for {T : Tg} {body : List Stmt} {src : En → Oc (List D)} (C : Ctx X W) (hp : PassesOwn (model X.prog X.w) X.A X.env X.xe) (hi : SI X W tg it src) (hg : ST X tg T) (hb : SSs X W body gs)
    (hs : ∀ x, foldedSetIterable it X.env x = pure x := by intro _; rfl) : SS X W (.For tg it body [] pos) (fr T src gs) := PS.weak (ps_for hp C.calm hi hg hb hs) fun D σ H ⟨G, ρ, me, G0, H0, B, p⟩ => by
  refine ⟨G, ρ, B.rel, ?_⟩
  revert p
  unfold fr
  cases src ρ with
  | st => exact id
  | ex c => exact fun p C G' H' x m => p C G' H' (B.ext.trans x) m
  | ok ds =>
    intro p J G1 H1 x1 Y
    simp only [bd_ok] at p
    have xb : Ext G0 H0 G1 H1 := B.ext.trans x1
    refine ⟨fun i m σ H => m = ds.length - i ∧ i ≤ ds.length ∧ ∃ G ρ, Same G1 G ∧ Bs X.K X.mg me G0 H0 G H ρ σ ∧ PostS X.K X.mg W me G0 H0 D (forL T gs (ds.drop i) ρ), ⟨ds.length, by simp, Nat.zero_le _, G1, ρ, .refl _, B.step x1, by simpa using p⟩, ?_⟩
    rintro i m σ H ⟨rfl, hi, G, ρ, s1, B, p⟩
    by_cases hlt : i < ds.length
    · refine .inr ⟨Y.go i G H hlt s1 B.rel.sub, _, fun σ' H' n => n, fun x H' y => ?_⟩
      obtain ⟨d, hd⟩ : ∃ d, ds[i]? = some d := ⟨ds[i], List.getElem?_eq_getElem hlt⟩
      obtain ⟨G2, x2, r2⟩ := Y.yld i d x G H H' hd s1 B.rel.sub y
      have B2 := B.step x2
      have hdr : ds.drop i = d :: ds.drop (i + 1) := by
        rw [List.drop_eq_getElem_cons hlt]
        rw [List.getElem?_eq_getElem hlt] at hd
        cases hd
        rfl
      rw [hdr] at p
      unfold forL at p
      cases hb2 : bindT T d ρ with
      | st => rw [hb2] at p; exact p.elim
      | ex c => exact absurd hb2 bindT_ex
      | ok ρ1 =>
        rw [hb2] at p
        simp only [bd_ok] at p
        refine gT_bs B2 r2 hb2 fun σ' B3 => ?_
        refine ⟨G2, ρ1, me, G1, H0, B3.rebase xb.gg (s1.trans x2.gg), ?_⟩
        revert p
        cases gs ρ1 with
        | st => exact id
        | ex c => exact fun p C G'' H'' x m => p C G'' H'' (xb.base x) m
        | ok r =>
          cases r with
          | nx ρ2 => exact fun p σ'' G'' H'' B4 => ⟨ds.length - (i + 1), by omega, rfl, hlt, G'', ρ2, B4.ext.gg, B4.base xb, p⟩
          | ct ρ2 => exact fun p σ'' G'' H'' B4 => ⟨ds.length - (i + 1), by omega, rfl, hlt, G'', ρ2, B4.ext.gg, B4.base xb, p⟩
          | bk ρ2 => exact fun p σ'' G'' H'' B4 => p σ'' G'' H'' (B4.base xb)
          | rt d => exact fun p v G'' H'' x r => p v G'' H'' (xb.base x) r
    · have e : i = ds.length := by omega
      subst e
      rw [List.drop_length] at p
      exact .inl ⟨Y.stop G H s1 B.rel.sub, p σ G H B⟩

/-! ### while -/
def whF (t : En → Oc Bool) (body : En → Oc Res) : Nat → En → Oc Res
  | 0, _ => .st
  | n + 1, ρ => bd (t ρ) fun b => if b then bd (body ρ) fun r => match r with
    | .nx ρ' => whF t body n ρ'
    | .ct ρ' => whF t body n ρ'
    | .bk ρ' => .ok (.nx ρ')
    | .rt d => .ok (.rt d)
    else .ok (.nx ρ)
theorem whF_mono {t : En → Oc Bool} {body : En → Oc Res} : ∀ {n m : Nat} {ρ : En} {o : Oc Res}, whF t body n ρ = o → o ≠ .st → n ≤ m → whF t body m ρ = o
  | 0, _, _, _, h, hn, _ => absurd h.symm hn
  | n + 1, 0, _, _, _, _, hm => absurd hm (by omega)
  | n + 1, m + 1, ρ, o, h, hn, hm => by
    unfold whF at h ⊢
    cases ht : t ρ with
    | st => rw [ht] at h; exact h
    | ex c => rw [ht] at h; exact h
    | ok b =>
      rw [ht] at h
      simp only [bd_ok] at h ⊢
      cases b with
      | false => exact h
      | true =>
        simp only [if_true] at h ⊢
        cases hb : body ρ with
        | st => rw [hb] at h; exact h
        | ex c => rw [hb] at h; exact h
        | ok r =>
          rw [hb] at h
          simp only [bd_ok] at h ⊢
          cases r with
          | nx ρ' => exact whF_mono h hn (by omega)
          | ct ρ' => exact whF_mono h hn (by omega)
          | bk ρ' => exact h
          | rt d => exact h
open Classical in
noncomputable def wh (t : En → Oc Bool) (body : En → Oc Res) : En → Oc Res := fun ρ => if h : ∃ n, whF t body n ρ ≠ .st then whF t body (choose h) ρ else .st
theorem wh_of {t : En → Oc Bool} {body : En → Oc Res} {n : Nat} {ρ : En} {o : Oc Res} (h : whF t body n ρ = o) (hn : o ≠ .st) : wh t body ρ = o := by
  have hex : ∃ n, whF t body n ρ ≠ .st := ⟨n, by rw [h]; exact hn⟩
  unfold wh
  rw [dif_pos hex]
  have hc := Classical.choose_spec hex
  rcases Nat.le_total n (Classical.choose hex) with l | l
  · exact whF_mono h hn l
  · exact (whF_mono rfl hc l).symm.trans h
theorem ss_while {body : List Stmt} (C : Ctx X W) (hp : PassesOwn (model X.prog X.w) X.A X.env X.xe) (hc : STT X W c t) (hb : SSs X W body gs) : SS X W (.While c body [] pos) (wh t gs) := PS.weak (ps_while hp hc hb) fun D σ H ⟨G, ρ, me, G0, H0, B, p⟩ => by
  have hex : ∃ n, whF t gs n ρ ≠ .st := by
    refine Classical.byContradiction fun hn => ?_
    unfold wh at p
    rw [dif_neg hn] at p
    exact p
  obtain ⟨n, hn⟩ := hex
  rw [wh_of rfl hn] at p
  refine ⟨fun m σ H => ∃ G ρ, Bs X.K X.mg me G0 H0 G H ρ σ ∧ PostS X.K X.mg W me G0 H0 D (whF t gs m ρ), ⟨n, G, ρ, B, p⟩, ?_⟩
  rintro m σ H ⟨G, ρ, B, p⟩
  cases m with
  | zero => exact p.elim
  | succ m =>
    unfold whF at p
    refine tT_in B ?_
    revert p
    cases t ρ with
    | st => exact id
    | ex c => exact id
    | ok b =>
      intro p G' H' B'
      simp only [bd_ok] at p
      cases b with
      | false => exact p σ G' H' B'
      | true =>
        simp only [if_true] at p ⊢
        refine ⟨_, fun σ' H' n => n, G', ρ, me, G0, H0, B', ?_⟩
        revert p
        cases gs ρ with
        | st => exact id
        | ex c => exact id
        | ok r =>
          cases r with
          | nx ρ2 => exact fun p σ'' G'' H'' B4 => ⟨m, Nat.lt_succ_self m, G'', ρ2, B4, p⟩
          | ct ρ2 => exact fun p σ'' G'' H'' B4 => ⟨m, Nat.lt_succ_self m, G'', ρ2, B4, p⟩
          | bk ρ2 => exact fun p => p
          | rt d => exact fun p => p

/-! ### comprehensions -/
def wipeE (ρ : En) : List Nat → En
  | [] => ρ
  | v :: vs => (wipeE ρ vs).set v .no
theorem Rel.wipe {G H : Hp} {ρ : En} {σ : L2.St} (R : Rel K mg G H ρ σ) : ∀ vs : List Nat, Rel K mg G H (wipeE ρ vs) (L2.wipe σ vs)
  | [] => R
  | v :: vs => (R.wipe vs).clear v
theorem wipe_get {σ : L2.St} {i : Nat} : ∀ {vs : List Nat}, i ∈ vs → i < σ.length → (L2.wipe σ vs)[i]? = some none
  | v :: vs, h, hl => by
    unfold L2.wipe
    by_cases e : v = i
    · subst e
      rw [List.getElem?_set_self (by rw [wipe_length]; exact hl)]
    · rw [List.getElem?_set_ne e]
      rcases List.mem_cons.mp h with z | z
      · exact absurd z.symm e
      · exact wipe_get z hl
theorem wipe_ext {σ τ : L2.St} {vs : List Nat} (hl : σ.length = τ.length) (h : ∀ i, i ∉ vs → σ[i]? = τ[i]?) : L2.wipe σ vs = L2.wipe τ vs := by
  apply List.ext_getElem?
  intro i
  by_cases hi : i ∈ vs
  · by_cases hs : i < σ.length
    · rw [wipe_get hi hs, wipe_get hi (by rw [← hl]; exact hs)]
    · rw [List.getElem?_eq_none (by rw [wipe_length]; omega), List.getElem?_eq_none (by rw [wipe_length]; omega)]
  · rw [wipe_out hi, wipe_out hi, h i hi]
theorem setV_get {i : Nat} : ∀ {is : List Nat} {vs : List V} {σ : L2.St}, i ∉ is → (setV is vs σ)[i]? = σ[i]?
  | [], _, _, _ => rfl
  | j :: is, [], _, _ => rfl
  | j :: is, v :: vs, σ, h => by
    unfold setV
    rw [setV_get fun z => h (List.mem_cons_of_mem _ z), List.getElem?_set_ne fun z => h (by rw [z]; exact List.mem_cons_self)]
theorem setV_len : ∀ {is : List Nat} {vs : List V} {σ : L2.St}, (setV is vs σ).length = σ.length
  | [], _, _ => rfl
  | j :: is, [], _ => rfl
  | j :: is, v :: vs, σ => by unfold setV; rw [setV_len, List.length_set]
theorem setT_wipe {T : Tg} {v : V} {us : List V} {σ : L2.St} {vs : List Nat} (h : ∀ i ∈ T.slots, i ∈ vs) : L2.wipe (setT T v us (L2.wipe σ vs)) vs = L2.wipe σ vs := by
  refine wipe_ext ?_ fun i hi => ?_
  · cases T with
    | one j => unfold setT; rw [List.length_set, wipe_length]
    | tup is => unfold setT; rw [setV_len, wipe_length]
  · cases T with
    | one j =>
      unfold setT
      rw [List.getElem?_set_ne fun z => hi (by rw [← z]; exact h j (by simp [Tg.slots])), wipe_out hi]
    | tup is =>
      show (setV is us (L2.wipe σ vs))[i]? = _
      rw [setV_get (is := is) fun z => hi (h i z), wipe_out hi]
def lcL (T : Tg) (own : List Nat) (tt : En → Oc Bool) (el : En → Oc D) (ρ : En) : List D → Oc (List D)
  | [] => .ok []
  | d :: ds => bd (noex (bindT T d (wipeE ρ own))) fun ρ1 => bd (noex (tt ρ1)) fun b => if b then bd (noex (el ρ1)) fun y => bd (lcL T own tt el ρ ds) fun ys => .ok (y :: ys) else lcL T own tt el ρ ds
def lc (T : Tg) (own : List Nat) (src : En → Oc (List D)) (tt : En → Oc Bool) (el : En → Oc D) : En → Oc D := fun ρ => bd (src ρ) fun ds => chk (decide (ds.length ≤ sizeLine)) (bd (lcL T own tt el ρ ds) fun ys => .ok (.lst ys))
theorem noex_ne {α : Type} {o : Oc α} {c : Str} (h : noex o = .ex c) : False := by
  cases o with
  | st => cases h
  | ok b => cases h
  | ex c => cases h
theorem lcL_noex {T : Tg} {own : List Nat} {tt : En → Oc Bool} {el : En → Oc D} {ρ : En} {c : Str} : ∀ {ds : List D}, lcL T own tt el ρ ds ≠ .ex c
  | [], h => by cases h
  | d :: ds, h => by
    unfold lcL at h
    cases h1 : noex (bindT T d (wipeE ρ own)) with
    | st => rw [h1] at h; cases h
    | ex c => exact noex_ne h1
    | ok ρ1 =>
      rw [h1] at h
      simp only [bd_ok] at h
      cases h2 : noex (tt ρ1) with
      | st => rw [h2] at h; cases h
      | ex c => exact noex_ne h2
      | ok b =>
        rw [h2] at h
        simp only [bd_ok] at h
        cases b with
        | false => exact lcL_noex h
        | true =>
          simp only [if_true] at h
          cases h3 : noex (el ρ1) with
          | st => rw [h3] at h; cases h
          | ex c => exact noex_ne h3
          | ok y =>
            rw [h3] at h
            simp only [bd_ok] at h
            cases h4 : lcL T own tt el ρ ds with
            | st => rw [h4] at h; cases h
            | ex c => exact lcL_noex h4
            | ok ys => rw [h4] at h; cases h
theorem noex_eq {α : Type} {o : Oc α} {a : α} (h : noex o = .ok a) : o = .ok a := by
  cases o with
  | st => cases h
  | ok b => exact h
  | ex c => cases h

theorem tLc_in {T : Tg} {own : List Nat} {src : En → Oc (List D)} {tt : En → Oc Bool} {el : En → Oc D} {σ : L2.St} {H : Hp} {Q : VK} (ho : ∀ i ∈ T.slots, i ∈ own) (q : tF K mg W (lc T own src tt el) σ H Q) :
    tLc (tI K mg W src) (gT K T) (tT K mg E0 tt) (tE K mg E0 el) own σ H Q := by
  obtain ⟨G, ρ, R, p⟩ := q
  refine ⟨G, ρ, R, ?_⟩
  revert p
  unfold lc
  cases src ρ with
  | st => exact id
  | ex c => exact id
  | ok ds =>
    intro p J G1 H1 x1 Y D hD
    simp only [bd_ok] at p
    obtain ⟨c0, p⟩ := p.chk
    have hsz : ds.length ≤ sizeLine := of_decide_eq_true c0
    have g1 : G1 D = none := x1.gh.free hD
    cases hall : lcL T own tt el ρ ds with
    | st => rw [hall] at p; exact p.elim
    | ex c => exact absurd hall lcL_noex
    | ok ys =>
      rw [hall] at p
      simp only [bd_ok] at p
      refine ⟨fun i m H => m = ds.length - i ∧ i ≤ ds.length ∧ ∃ G acc zs ws, Ext G1 H1 G H ∧ H D = some (.lst acc) ∧ G D = none ∧ RepL K mg G acc zs ∧ zs.length ≤ i ∧ lcL T own tt el ρ (ds.drop i) = .ok ws ∧ ys = zs ++ ws,
        ⟨ds.length, by simp, Nat.zero_le _, G1, [], [], ys, Ext.newH x1.gh hD, upd_same, g1, .nil, Nat.le_refl _, by simpa using hall, rfl⟩, ?_⟩
      rintro i m H ⟨rfl, hi, G, acc, zs, ws, x, hH, gD, rl, hz, hw, rfl⟩
      have RR : Rel K mg G H ρ σ := (R.ext x1).ext x
      by_cases hlt : i < ds.length
      · refine .inr ⟨Y.go i G H hlt x.gg x.gh, _, fun H' n => n, fun v H' y => ?_⟩
        obtain ⟨d, hd⟩ : ∃ d, ds[i]? = some d := ⟨ds[i], List.getElem?_eq_getElem hlt⟩
        obtain ⟨G2, x2, r2⟩ := Y.yld i d v G H H' hd x.gg x.gh y
        have hdr : ds.drop i = d :: ds.drop (i + 1) := by
          rw [List.drop_eq_getElem_cons hlt]
          rw [List.getElem?_eq_getElem hlt] at hd
          cases hd
          rfl
        rw [hdr] at hw
        unfold lcL at hw
        cases h1 : noex (bindT T d (wipeE ρ own)) with
        | st => rw [h1] at hw; cases hw
        | ex c => exact (noex_ne h1).elim
        | ok ρ1 =>
          rw [h1] at hw
          simp only [bd_ok] at hw
          have R2 : Rel K mg G2 H' (wipeE ρ own) (L2.wipe σ own) := (RR.ext x2).wipe own
          refine gT_rel R2 r2 (noex_eq h1) fun us R3 => ⟨setT_wipe ho, ?_⟩
          refine ⟨G2, ρ1, R3, ?_⟩
          cases h2 : noex (tt ρ1) with
          | st => rw [h2] at hw; cases hw
          | ex c => exact (noex_ne h2).elim
          | ok b =>
            rw [h2] at hw
            simp only [bd_ok] at hw
            rw [noex_eq h2]
            intro G3 H3 x3
            have x13 : Ext G1 H1 G3 H3 := (x.trans x2).trans x3
            have x23 : Ext G H G3 H3 := x2.trans x3
            have hH3 : H3 D = some (.lst acc) := x23.hh _ _ hH
            have gD3 : G3 D = none := x23.nc D _ hH gD
            cases b with
            | false =>
              simp only [Bool.false_eq_true, if_false] at hw ⊢
              exact ⟨ds.length - (i + 1), by omega, rfl, hlt, G3, acc, zs, ws, x13, hH3, gD3, rl.same x23.gg, by omega, hw, rfl⟩
            | true =>
              simp only [if_true] at hw ⊢
              refine ⟨G3, ρ1, R3.ext x3, ?_⟩
              cases h3 : noex (el ρ1) with
              | st => rw [h3] at hw; cases hw
              | ex c => exact (noex_ne h3).elim
              | ok yd =>
                rw [h3] at hw
                simp only [bd_ok] at hw
                rw [noex_eq h3]
                intro yv G4 H4 x4 ry
                have x14 : Ext G1 H1 G4 H4 := x13.trans x4
                have hH4 : H4 D = some (.lst acc) := x4.hh _ _ hH3
                have gD4 : G4 D = none := x4.nc D _ hH3 gD3
                cases h4 : lcL T own tt el ρ (ds.drop (i + 1)) with
                | st => rw [h4] at hw; cases hw
                | ex c => exact absurd h4 lcL_noex
                | ok ws2 =>
                  rw [h4] at hw
                  cases hw
                  refine ⟨acc, hH4, by rw [rl.length]; omega, ds.length - (i + 1), by omega, rfl, hlt, G4, acc ++ [yv], zs ++ [yd], ws2, ⟨fun b u e => ?_, x14.gg, fun b u e => ?_, x14.nc⟩, upd_same, gD4, (rl.same (x23.gg.trans x4.gg)).append (.cons ry .nil), by simp; omega, rfl, by simp⟩
                  · rw [upd_ne (ne_of_none e hD)]; exact x14.hh _ _ e
                  · rw [upd_ne (ne_of_none e gD4)]; exact x14.gh _ _ e
      · have e : i = ds.length := by omega
        subst e
        rw [List.drop_length] at hw
        cases hw
        refine .inl ⟨Y.stop G H x.gg x.gh, p D G H (x1.trans x) (x1.hh.free hD) gD ⟨acc, hH, ?_⟩⟩
        rw [List.append_nil]
        exact rl
theorem sf_lc {elt : Expr} {ifs : List Expr} {scope : Scope} {own : List (Str × Nat)} {T : Tg} {src : En → Oc (List D)} {tt : En → Oc Bool} {el : En → Oc D} (C : Ctx X W) (hi : SI X W tg it src) (ok : BlkOk X.N X.env.scope scope own)
    (hg : ∀ (s : Shared) (H : Hp) (C : Addr) (cl : List (Str × Addr)) (fp : List Addr), ST (X.blk s H scope (compEnvC scope cl C X.env) fp) tg T) (ht : ∀ (s : Shared) (H : Hp) (C : Addr) (cl : List (Str × Addr)) (fp : List Addr), PTs (X.blk s H scope (compEnvC scope cl C X.env) fp) ifs (tT X.K X.mg E0 tt))
    (he : ∀ (s : Shared) (H : Hp) (C : Addr) (cl : List (Str × Addr)) (fp : List Addr), SE (X.blk s H scope (compEnvC scope cl C X.env) fp) E0 elt el) (ho : ∀ i ∈ T.slots, i ∈ own.map (·.2)) (hs : ∀ x, foldedSetIterable it X.env x = pure x := by intro _; rfl) :
    SF X W (.ListComp elt [⟨tg, it, ifs, 0⟩] scope pos) (lc T (own.map (·.2)) src tt el) := PE.weak (pe_lc C.calm C.nd hi ok hg ht he hs) fun σ H Q q => tLc_in ho q
theorem tF_of_tE {σ : L2.St} {H : Hp} {Q : VK} (h : tE K mg W f σ H Q) : tF K mg W f σ H Q := by
  obtain ⟨G, ρ, R, p⟩ := h
  refine ⟨G, ρ, R, ?_⟩
  revert p
  cases f ρ with
  | st => exact id
  | ok d =>
    intro p a G' H' x ha ga ow
    obtain ⟨u, hu⟩ := ow.ex
    have gg : Same G' (upd G' a u) := fun b o e => by rw [upd_ne (ne_of_none e ga)]; exact e
    refine p (.ref a) (upd G' a u) H' ⟨x.hh, x.gg.trans gg, fun b o e => ?_, fun b o hb gb => ?_⟩ (ow.rep gg fun o q => by rw [hu] at q; cases q; exact upd_same)
    · by_cases hb : b = a
      · subst hb; rw [upd_same] at e; rw [hu]; exact e
      · rw [upd_ne hb] at e; exact x.gh _ _ e
    · rw [upd_ne (ne_of_none hb ha)]; exact x.nc b o hb gb
  | ex c => exact id
theorem ss_setLc {i : Nat} {y : Str} {py : Pos} {elt : Expr} {ifs : List Expr} {scope : Scope} {own : List (Str × Nat)} {pos2 : Pos} {T : Tg} {src : En → Oc (List D)} {tt : En → Oc Bool} {el : En → Oc D} (C : Ctx X W) (hy : X.N[i]? = some y) (hyl : X.env.scope.names.lookup y = some .local)
    (hsw : swapsWith (.ListComp elt [⟨tg, it, ifs, 0⟩] scope pos) (some (.Name y py)) pos2.line X.env = pure true) (hi : SI X W tg it src) (ok : BlkOk X.N X.env.scope scope own)
    (hg : ∀ (s : Shared) (H : Hp) (C : Addr) (cl : List (Str × Addr)) (fp : List Addr), ST (X.blk s H scope (compEnvC scope cl C X.env) fp) tg T) (ht : ∀ (s : Shared) (H : Hp) (C : Addr) (cl : List (Str × Addr)) (fp : List Addr), PTs (X.blk s H scope (compEnvC scope cl C X.env) fp) ifs (tT X.K X.mg E0 tt))
    (he : ∀ (s : Shared) (H : Hp) (C : Addr) (cl : List (Str × Addr)) (fp : List Addr), SE (X.blk s H scope (compEnvC scope cl C X.env) fp) E0 elt el) (ho : ∀ i ∈ T.slots, i ∈ own.map (·.2)) (hs : ∀ x, foldedSetIterable it X.env x = pure x := by intro _; rfl) :
    SS X W (.Assign [.Name y py] (.ListComp elt [⟨tg, it, ifs, 0⟩] scope pos) pos2) (asg i (lc T (own.map (·.2)) src tt el)) := PS.weak (ps_setLc C.calm C.nd hy hyl hsw hi ok hg ht he hs) fun D σ H ⟨G, ρ, me, G0, H0, B, p⟩ =>
  tLc_in ho (tF_of_tE (asg_post B p))
theorem ss_setLcO {i : Nat} {y : Str} {py : Pos} {elt : Expr} {ifs : List Expr} {scope : Scope} {own : List (Str × Nat)} {pos2 : Pos} {T : Tg} {src : En → Oc (List D)} {tt : En → Oc Bool} {el : En → Oc D} (C : Ctx X W) (hy : X.N[i]? = some y) (hyl : X.env.scope.names.lookup y = some .local)
    (hsw : swapsWith (.ListComp elt [⟨tg, it, ifs, 0⟩] scope pos) (some (.Name y py)) pos2.line X.env = pure true) (hi : SI X W tg it src) (ok : BlkOk X.N X.env.scope scope own)
    (hg : ∀ (s : Shared) (H : Hp) (C : Addr) (cl : List (Str × Addr)) (fp : List Addr), ST (X.blk s H scope (compEnvC scope cl C X.env) fp) tg T) (ht : ∀ (s : Shared) (H : Hp) (C : Addr) (cl : List (Str × Addr)) (fp : List Addr), PTs (X.blk s H scope (compEnvC scope cl C X.env) fp) ifs (tT X.K X.mg E0 tt))
    (he : ∀ (s : Shared) (H : Hp) (C : Addr) (cl : List (Str × Addr)) (fp : List Addr), SE (X.blk s H scope (compEnvC scope cl C X.env) fp) E0 elt el) (ho : ∀ i ∈ T.slots, i ∈ own.map (·.2)) (hs : ∀ x, foldedSetIterable it X.env x = pure x := by intro _; rfl) :
    SS X W (.Assign [.Name y py] (.ListComp elt [⟨tg, it, ifs, 0⟩] scope pos) pos2) (asgO i (lc T (own.map (·.2)) src tt el)) := PS.weak (ps_setLc C.calm C.nd hy hyl hsw hi ok hg ht he hs) fun D σ H ⟨G, ρ, me, G0, H0, B, p⟩ =>
  tLc_in ho (asgO_post B p)
def yes : En → Oc Bool := fun _ => .ok true
theorem sts_nil : PTs X [] (tT X.K X.mg W yes) := ⟨fun pins s σ H Q I h => pts_nil.run pins s σ H Q I (by obtain ⟨G, ρ, R, p⟩ := h; exact p G H (.refl R.sub))⟩
theorem sts_one (h : STT X W c t) : PTs X [c] (tT X.K X.mg W t) := pts_one h
theorem st_one {i : Nat} {x : Str} {p : Pos} (hN : X.N.Nodup) (hi : X.N[i]? = some x) (hx : Loc X.env.scope x) (hf : X.fn x = true ∨ X.env.scope.names.lookup x = some .local := by first | exact .inl rfl | exact .inr rfl | assumption) : ST X (.Name x p) (.one i) := pg_name hN hi hx hf
abbrev STs (X : Cx) (es : List Expr) (is : List Nat) : Prop := PGs X es (gNames is)
theorem sts_nil' : STs X [] [] := pgs_nil
theorem sts_cons {i : Nat} {is : List Nat} (h : ST X e (.one i)) (h2 : STs X es is) (hs : (assignEach (e :: es) X.env).map (·.2) = assign e X.env :: (assignEach es X.env).map (·.2) := by rfl) : STs X (e :: es) (i :: is) := pgs_cons h h2 hs
theorem st_tup {is : List Nat} {k : Nat} (hc : X.calm = true) (h : STs X es is) (hn : (assignEach es X.env).length = is.length := by rfl) (hst : (assignEach es X.env).findIdx? (·.1) = none := by rfl) : ST X (.Tuple es k pos) (.tup is) := pg_tup hc h hn hst
def asgT (T : Tg) (f : En → Oc D) : En → Oc Res := fun ρ => bd (f ρ) fun d => bd (bindT T d ρ) fun ρ' => .ok (.nx ρ')
theorem ss_asgT {T : Tg} (ha : SE X W a f) (hg : ST X tg T) (hs : swapsWithSole [tg] a pos.line X.env = pure false := by rfl) (hw : swappedStores [tg] a X.env = pure none := by rfl) (h1 : (assignEach [tg] X.env).map (·.2) = [assign tg X.env] := by rfl) : SS X W (.Assign [tg] a pos) (asgT T f) := PS.weak (ps_asg ha hg hs hw h1) fun D σ H ⟨G, ρ, me, G0, H0, B, p⟩ => by
  refine tE_in B ?_
  revert p
  unfold asgT
  cases f ρ with
  | st => exact id
  | ex c => exact id
  | ok d =>
    intro p v G' H' B' r
    simp only [bd_ok] at p
    cases hb : bindT T d ρ with
    | st => rw [hb] at p; exact p.elim
    | ex c => exact absurd hb bindT_ex
    | ok ρ' =>
      rw [hb] at p
      exact gT_bs B' r hb fun σ' B2 => p σ' G' H' B2
def rse (c : Str) : En → Oc Res := fun _ => .ex c

/-! ### defs -/
def outR : Oc Res → Oc D := fun o => bd o fun r => match r with
  | .nx _ => .ok .non
  | .rt d => .ok d
  | _ => .st
def fnB (n m : Nat) (g : En → Oc Res) : List D → Oc D := fun ds => chk (decide (ds.length = m)) (outR (g (ds.map .sh ++ List.replicate (n - m) .no)))
end
theorem rel_start {G H : Hp} {N : List Str} {vs : List V} {ds : List D} (s : Same G H) (r : RepL K mg G vs ds) : Rel K mg G H (ds.map .sh ++ List.replicate (N.length - ds.length) .no) (L2.start N vs) := by
  have hl := r.length
  refine ⟨s, by simp [L2.start, hl], fun i sl o h1 h2 => ?_, fun i j a d e h1 h2 h3 h4 => ?_⟩
  · by_cases hi : i < ds.length
    · rw [List.getElem?_append_left (by simpa using hi), List.getElem?_map, List.getElem?_eq_getElem hi] at h1
      cases h1
      unfold L2.start at h2
      rw [List.getElem?_append_left (by simpa [hl] using hi), List.getElem?_map] at h2
      obtain ⟨v, hv, rv⟩ := r.get (List.getElem?_eq_getElem hi)
      rw [hv] at h2
      cases h2
      exact ⟨v, rfl, rv⟩
    · rw [List.getElem?_append_right (by simpa using hi), List.getElem?_replicate] at h1
      split at h1
      · cases h1; trivial
      · cases h1
  · by_cases hi : i < ds.length
    · rw [List.getElem?_append_left (by simpa using hi), List.getElem?_map, List.getElem?_eq_getElem hi] at h1
      cases h1
    · rw [List.getElem?_append_right (by simpa using hi), List.getElem?_replicate] at h1
      split at h1 <;> cases h1
section
variable {P : Program} {w : World} {base : Heap}
theorem ctx_def {N ps : List Str} {qual : Str} {sc : Scope} {f : Addr} {cdv : Value} {A : Around} {outer : List Env} {s : Shared} {H : Hp} {E : XK} {k : Nat} (S : FnScope N ps sc) (hr : Room k (A.deeper (envOfC qual sc s.heap.objs.size f cdv))) : Ctx (cxOf (L2.CX P w) P w K mg base N qual sc f cdv A outer s H E) E :=
  ⟨rfl, S.nd, passes_call (W := fun c d _ H => E c d H) (takes_of rfl rfl rfl rfl) (fun _ _ _ _ h => h), by have := hr.un; show (A.deeper (envOfC qual sc s.heap.objs.size f cdv)).units + 65 < cLine; omega⟩
theorem po_def {N : List Str} {qual : Str} {sc : Scope} {f : Addr} {cdv : Value} {A : Around} {outer : List Env} {s : Shared} {H : Hp} {E : XK} :
    PassesOwn (model (cxOf (L2.CX P w) P w K mg base N qual sc f cdv A outer s H E).prog (cxOf (L2.CX P w) P w K mg base N qual sc f cdv A outer s H E).w) (cxOf (L2.CX P w) P w K mg base N qual sc f cdv A outer s H E).A (cxOf (L2.CX P w) P w K mg base N qual sc f cdv A outer s H E).env (cxOf (L2.CX P w) P w K mg base N qual sc f cdv A outer s H E).xe := passes_of rfl
theorem Ctx.blk {X : Cx} {W : XK} (C : Ctx X W) (s : Shared) (H : Hp) (scope : Scope) (cenv : Env) (fp : List Addr) : Ctx (X.blk s H scope cenv fp) E0 := ⟨C.calm, C.nd, passL, C.units⟩
theorem fn_ok {x qual : Str} {st : Stmt} {f : Addr} {fd : FuncData} {N ps : List Str} {k : Nat} {g : En → Oc Res} (F : Fun K x qual st f fd) (S : FnScope N ps (defScope st))
    (hb : ∀ (cdv : Value) (A : Around) (outer : List Env) (s : Shared) (H : Hp) (E : XK), Room k (A.deeper (envOfC qual (defScope st) s.heap.objs.size f cdv)) → Ctx (cxOf (L2.CX P w) P w K mg base N qual (defScope st) f cdv A outer s H E) E →
      SSs (cxOf (L2.CX P w) P w K mg base N qual (defScope st) f cdv A outer s H E) E (defBody st) g) : FnOk P w K mg base (L2.CX P w) (k + 1) f fd ps (spF K mg ps.length (fnB N.length ps.length g)) := by
  refine F.okX S (fun vs H Q E h => h.1) fun cdv A outer s H vs Q E hr h => ?_
  obtain ⟨hl, G, ds, sG, r, p⟩ := h
  refine ⟨_, hb cdv A outer s H E hr (ctx_def S hr), ?_⟩
  unfold fnB at p
  obtain ⟨c, p⟩ := p.chk
  have hd := of_decide_eq_true c
  have R := rel_start (N := N) sG r
  rw [hd] at R
  have key : ∀ (i : Nat) (d : D), (ds.map Sl.sh ++ List.replicate (N.length - ps.length) Sl.no)[i]? ≠ some (.ow d) := fun i d h1 => by
    by_cases hi : i < ds.length
    · rw [List.getElem?_append_left (by simpa using hi), List.getElem?_map, List.getElem?_eq_getElem hi] at h1
      cases h1
    · rw [List.getElem?_append_right (by simpa using hi), List.getElem?_replicate] at h1
      split at h1 <;> cases h1
  refine ⟨G, _, 0, G, H, ⟨R, .refl sG, fun i a d h1 _ => absurd h1 (key i d), fun i c fs h1 => absurd h1 (key i _)⟩, ?_⟩
  revert p
  unfold outR
  cases g (ds.map .sh ++ List.replicate (N.length - ps.length) .no) with
  | st => exact id
  | ex c => exact id
  | ok r =>
    simp only [bd_ok]
    cases r with
    | nx ρ => exact fun p σ G' H' B => p .non G' H' B.ext .non
    | rt d => exact fun p v G' H' x r => p v G' H' x r
    | bk ρ => exact fun p => p.elim
    | ct ρ => exact fun p => p.elim
def self0 (ρ : En) : Oc D := match (ρ[0]? : Option Sl) with
  | some (.ow (.obj c fs)) => .ok (.obj c fs)
  | _ => .st
theorem self0_ok {ρ : En} {d : D} (h : self0 ρ = .ok d) : ∃ c fs, d = .obj c fs ∧ ρ[0]? = some (.ow (.obj c fs)) := by
  unfold self0 at h
  split at h
  · rename_i c fs hq
    cases h
    exact ⟨c, fs, rfl, hq⟩
  · cases h
theorem self0_ex {ρ : En} {c : Str} (h : self0 ρ = .ex c) : False := by
  unfold self0 at h
  split at h <;> cases h
def outI : Oc Res → Oc D := fun o => bd o fun r => match r with
  | .nx ρ => self0 ρ
  | _ => .st
def fnI (c : Str) (n m : Nat) (g : En → Oc Res) : List D → Oc D := fun ds => chk (decide (ds.length = m)) (outI (g (.ow (.obj c []) :: (ds.map .sh ++ List.replicate (n - m) .no))))
def rmv (H : Hp) (x : Addr) : Hp := fun b => if b = x then none else H b
theorem rmv_ne {H : Hp} {x b : Addr} (h : b ≠ x) : rmv H x b = H b := by unfold rmv; rw [if_neg h]
theorem rmv_some {H : Hp} {x b : Addr} {o : HO} (h : rmv H x b = some o) : b ≠ x ∧ H b = some o := by
  unfold rmv at h
  split at h
  · cases h
  · rename_i hn; exact ⟨hn, h⟩
theorem Rel.cons_own {G H : Hp} {ρ : En} {σ : L2.St} {x : Addr} {d : D} (R : Rel K mg G H ρ σ) (gx : G x = none) (ow : OwAt K mg G H x d) (no : ∀ (i : Nat) (e : D), ρ[i]? ≠ some (.ow e)) : Rel K mg G H (.ow d :: ρ) (some (.ref x) :: σ) := by
  refine ⟨R.sub, by simp [R.len], fun i s o h1 h2 => ?_, fun i j a d' e' h1 h2 h3 h4 => ?_⟩
  · cases i with
    | zero => simp at h1 h2; subst h1 h2; exact ⟨x, rfl, gx, ow⟩
    | succ i => exact R.at_ i s o (by simpa using h1) (by simpa using h2)
  · cases i with
    | zero =>
      cases j with
      | zero => rfl
      | succ j => exact absurd (by simpa using h2) (no j e')
    | succ i => exact absurd (by simpa using h1) (no i d')
theorem init_ok {x qual c : Str} {st : Stmt} {f : Addr} {fd : FuncData} {N ps : List Str} {k m : Nat} {g : En → Oc Res} (F : Fun K x qual st f fd) (S : FnScope N ps (defScope st)) (hps : ps.length = m + 1)
    (hb : ∀ (cdv : Value) (A : Around) (outer : List Env) (s : Shared) (H : Hp) (E : XK), Room k (A.deeper (envOfC qual (defScope st) s.heap.objs.size f cdv)) → Ctx (cxOf (L2.CX P w) P w K mg base N qual (defScope st) f cdv A outer s H E) E →
      SSs (cxOf (L2.CX P w) P w K mg base N qual (defScope st) f cdv A outer s H E) E (defBody st) g) : FnOk P w K mg base (L2.CX P w) (k + 1) f fd ps (spI K mg c m (fnI c (N.length - 1) m g)) := by
  refine F.okX S (fun vs H Q E h => h.1.trans hps.symm) fun cdv A outer s H vs Q E hr h => ?_
  obtain ⟨hl, G, ds, x, dx, C, vs', rfl, mc, hx, hdx, ne, gx, sG, r, p⟩ := h
  refine ⟨_, hb cdv A outer s H E hr (ctx_def S hr), ?_⟩
  have hN : m + 1 ≤ N.length := by
    have := congrArg List.length S.pre
    rw [List.length_take] at this
    omega
  unfold fnI at p
  cases hc : decide (ds.length = m) with
  | false => rw [hc] at p; exact p.elim
  | true =>
    rw [hc] at p
    simp only [chk_true] at p
    have hd := of_decide_eq_true hc
    have R0 := rel_start (N := N.drop 1) sG r
    rw [List.length_drop, hd] at R0
    have key : ∀ (i : Nat) (d : D), (ds.map Sl.sh ++ List.replicate (N.length - 1 - m) Sl.no)[i]? ≠ some (.ow d) := fun i d h1 => by
      by_cases hi : i < ds.length
      · rw [List.getElem?_append_left (by simpa using hi), List.getElem?_map, List.getElem?_eq_getElem hi] at h1
        cases h1
      · rw [List.getElem?_append_right (by simpa using hi), List.getElem?_replicate] at h1
        split at h1 <;> cases h1
    have hst : L2.start N (.ref x :: vs') = some (.ref x) :: L2.start (N.drop 1) vs' := by
      unfold L2.start
      have e1 : N.length - (vs'.length + 1) = (N.length - 1) - vs'.length := by omega
      simp [e1]
    have R : Rel K mg G H (.ow (.obj c []) :: (ds.map .sh ++ List.replicate (N.length - 1 - m) .no)) (L2.start N (.ref x :: vs')) := by
      rw [hst]
      exact R0.cons_own gx ⟨C, dx, [], mc, hx, .nil⟩ key
    refine ⟨G, _, x, G, rmv H x, ⟨R, ⟨fun b o e => (rmv_some e).2, .refl _, sG, fun _ _ _ g => g⟩, fun i a d h1 h2 => ?_, fun i c fs h1 => ?_⟩, ?_⟩
    · cases i with
      | zero =>
        rw [hst] at h2
        simp at h2
        subst h2
        unfold rmv
        rw [if_pos rfl]
      | succ i => exact absurd (by simpa using h1) (key i d)
    · cases i with
      | zero => rw [hst]; rfl
      | succ i => exact absurd (by simpa using h1) (key i _)
    · revert p
      unfold outI
      cases g (.ow (.obj c []) :: (ds.map .sh ++ List.replicate (N.length - 1 - m) .no)) with
      | st => exact id
      | ex c => exact fun p C' G' H' y mm => p C' G' H' (fun b o e hb => y.hh _ _ (by rw [rmv_ne hb]; exact e)) y.gg y.gh (fun b o e hb g => y.nc b o (by rw [rmv_ne hb]; exact e) g) mm
      | ok r =>
        simp only [bd_ok]
        cases r with
        | nx ρ =>
          intro p σ G' H' B
          simp only at p
          cases hs : self0 ρ with
          | st => rw [hs] at p; exact p.elim
          | ex c => exact (self0_ex hs).elim
          | ok d =>
            rw [hs] at p
            obtain ⟨c2, fs, rfl, hq⟩ := self0_ok hs
            obtain ⟨o, ho, a, rfl, ga, ow⟩ := B.rel.get hq
            have e1 := B.self 0 c2 fs hq
            rw [ho] at e1
            cases e1
            exact p G' H' (fun b o e hb => B.ext.hh _ _ (by rw [rmv_ne hb]; exact e)) B.ext.gg B.ext.gh (fun b o e hb g => B.ext.nc b o (by rw [rmv_ne hb]; exact e) g) ga ow
        | rt d => exact fun p => p.elim
        | bk ρ => exact fun p => p.elim
        | ct ρ => exact fun p => p.elim
end
end Fx

set_option Elab.async false
set_option linter.all false
set_option maxRecDepth 100000
set_option maxHeartbeats 4000000
/-! Fx6: tests by comparison, chains. -/
namespace Fx
open PySem PySem.Spec PyProof.Rows L2
variable {K : PySem.W.Frag} {mg : Str → Option Value}
section
variable {X : Cx} {W : XK} {a b c e : Expr} {f g h : En → Oc D} {pos : Pos}
variable {G H : Hp} {x y : V} {d1 d2 : D} {Q : VK}
theorem eq_of (s : Same G H) (r1 : RepQ X.K X.mg G H x d1) (r2 : RepQ X.K X.mg G H y d2) (p : PostE X.K X.mg W G H Q (eqD d1 d2)) : rEqD X.K x y H Q := by
  unfold eqD at p
  cases e1 : toPD d1 with
  | none => rw [e1] at p; exact p.elim
  | some p1 =>
    cases e2 : toPD d2 with
    | none => rw [e1, e2] at p; exact p.elim
    | some p2 =>
      rw [e1, e2] at p
      obtain ⟨c, q⟩ := p.chk
      rw [Bool.and_eq_true] at c
      exact ⟨p1, p2, r1.dp s e1, r2.dp s e2, c.1, c.2, q.here s (.bl _)⟩
theorem ne_of' (s : Same G H) (r1 : RepQ X.K X.mg G H x d1) (r2 : RepQ X.K X.mg G H y d2) (p : PostE X.K X.mg W G H Q (neD d1 d2)) : rNeD X.K x y H Q := by
  unfold neD at p
  cases e1 : toPD d1 with
  | none => rw [e1] at p; exact p.elim
  | some p1 =>
    cases e2 : toPD d2 with
    | none => rw [e1, e2] at p; exact p.elim
    | some p2 =>
      rw [e1, e2] at p
      obtain ⟨c, q⟩ := p.chk
      rw [Bool.and_eq_true] at c
      exact ⟨p1, p2, r1.dp s e1, r2.dp s e2, c.1, c.2, q.here s (.bl _)⟩
theorem in_of (s : Same G H) (r1 : RepQ X.K X.mg G H x d1) (r2 : RepQ X.K X.mg G H y d2) (p : PostE X.K X.mg W G H Q (inD d1 d2)) : rInA X false x y H Q := by
  unfold inD at p
  cases e : inB d1 d2 with
  | none => rw [e] at p; exact p.elim
  | some t => rw [e] at p; exact inA_of (neg := false) s r1 r2 e (p.here s (.bl _))
theorem nin_of (s : Same G H) (r1 : RepQ X.K X.mg G H x d1) (r2 : RepQ X.K X.mg G H y d2) (p : PostE X.K X.mg W G H Q (ninD d1 d2)) : rInA X true x y H Q := by
  unfold ninD at p
  cases e : inB d1 d2 with
  | none => rw [e] at p; exact p.elim
  | some t => rw [e] at p; exact inA_of (neg := true) s r1 r2 e (p.here s (.bl _))
theorem isN_of (s : Same G H) (r1 : RepQ X.K X.mg G H x d1) (r2 : RepQ X.K X.mg G H y d2) (p : PostE X.K X.mg W G H Q (isN d1 d2)) : y = .non ∧ Q (.bl (decide (x = .non))) H := by
  unfold isN at p
  split at p
  · refine ⟨r2.non, ?_⟩
    rw [r1.nonIff]
    exact p.here s (.bl _)
  · exact p.elim
theorem notN_of (s : Same G H) (r1 : RepQ X.K X.mg G H x d1) (r2 : RepQ X.K X.mg G H y d2) (p : PostE X.K X.mg W G H Q (notN d1 d2)) : y = .non ∧ Q (.bl (!decide (x = .non))) H := by
  unfold notN at p
  split at p
  · refine ⟨r2.non, ?_⟩
    rw [r1.nonIff]
    exact p.here s (.bl _)
  · exact p.elim
theorem st_eq (ha : SQ X W a f) (hb : SQ X W b g) (hu : X.A.units + 65 < cLine) : STT X W (.Compare a [.Eq] [b] pos) (tst (bi eqD f g)) := st_op2 (fun ha hb => pt_cmpR (op_eqD (Nat.lt_of_succ_lt hu)) ha hb (nomark _)) eq_of ha hb
theorem st_ne (ha : SQ X W a f) (hb : SQ X W b g) (hu : X.A.units + 65 < cLine) : STT X W (.Compare a [.NotEq] [b] pos) (tst (bi neD f g)) := st_op2 (fun ha hb => pt_cmpR (op_neD (Nat.lt_of_succ_lt hu)) ha hb (nomark _)) ne_of' ha hb
theorem st_in (ha : SQ X W a f) (hb : SQ X W b g) (hu : X.A.units + 65 < cLine) (hm : behindInMarks .In b = false := by rfl) : STT X W (.Compare a [.In] [b] pos) (tst (bi inD f g)) := st_op2 (fun ha hb => pt_cmpR (op_inA hu) ha hb hm) in_of ha hb
theorem st_nin (ha : SQ X W a f) (hb : SQ X W b g) (hu : X.A.units + 65 < cLine) (hm : behindInMarks .NotIn b = false := by rfl) : STT X W (.Compare a [.NotIn] [b] pos) (tst (bi ninD f g)) := st_op2 (fun ha hb => pt_cmpR (op_ninA hu) ha hb hm) nin_of ha hb
theorem st_lt (ha : SQ X W a f) (hb : SQ X W b g) : STT X W (.Compare a [.Lt] [b] pos) (tst (bi (cmpD fun i j => decide (i < j)) f g)) := st_op2 (fun ha hb => pt_cmpR op_lt ha hb (nomark _)) cmp_of ha hb
theorem st_le (ha : SQ X W a f) (hb : SQ X W b g) : STT X W (.Compare a [.LtE] [b] pos) (tst (bi (cmpD fun i j => decide (i ≤ j)) f g)) := st_op2 (fun ha hb => pt_cmpR op_le ha hb (nomark _)) cmp_of ha hb
theorem st_gt (ha : SQ X W a f) (hb : SQ X W b g) : STT X W (.Compare a [.Gt] [b] pos) (tst (bi (cmpD fun i j => decide (j < i)) f g)) := st_op2 (fun ha hb => pt_cmpR op_gt ha hb (nomark _)) cmp_of ha hb
theorem st_ge (ha : SQ X W a f) (hb : SQ X W b g) : STT X W (.Compare a [.GtE] [b] pos) (tst (bi (cmpD fun i j => decide (j ≤ i)) f g)) := st_op2 (fun ha hb => pt_cmpR op_ge ha hb (nomark _)) cmp_of ha hb
theorem st_isN (ha : SQ X W a f) (hb : SQ X W b g) : STT X W (.Compare a [.Is] [b] pos) (tst (bi isN f g)) := st_op2 (fun ha hb => pt_cmpR op_isN ha hb (nomark _)) isN_of ha hb
theorem st_notN (ha : SQ X W a f) (hb : SQ X W b g) : STT X W (.Compare a [.IsNot] [b] pos) (tst (bi notN f g)) := st_op2 (fun ha hb => pt_cmpR op_notN ha hb (nomark _)) notN_of ha hb
end
end Fx

set_option Elab.async false
set_option linter.all false
set_option maxRecDepth 100000
set_option maxHeartbeats 4000000
/-! Fx7: the mathematics of the functions: how they are evaluated. -/
namespace Fx
open PySem PySem.Spec PyProof.Rows L2

theorem sizeLine_val : sizeLine = 16777216 := by rw [sizeLine_eq]
@[simp] theorem outR_nx (ρ : En) : outR (.ok (.nx ρ)) = .ok .non := id rfl
@[simp] theorem outR_rt (d : D) : outR (.ok (.rt d)) = .ok d := id rfl
@[simp] theorem outR_ex (c : Str) : outR (.ex c) = .ex c := id rfl
@[simp] theorem lenD_str (z : Str) : lenD (.str z) = chk (decide (z.length ≤ sizeLine)) (.ok (.int z.length)) := id rfl
@[simp] theorem lenD_lst (ds : List D) : lenD (.lst ds) = .ok (.int ds.length) := id rfl
@[simp] theorem lenD_tup (ds : List D) : lenD (.tup ds) = .ok (.int ds.length) := id rfl
@[simp] theorem lenD_fz (ds : List D) : lenD (.fz ds) = .ok (.int ds.length) := id rfl
@[simp] theorem cmpD_int (p : Int → Int → Bool) (i j : Int) : cmpD p (.int i) (.int j) = .ok (.bl (p i j)) := id rfl
@[simp] theorem addD_int (i j : Int) : addD (.int i) (.int j) = .ok (.int (i + j)) := id rfl
@[simp] theorem addD_str (i j : Str) : addD (.str i) (.str j) = chk (decide (i.length + j.length ≤ sizeLine)) (.ok (.str (i ++ j))) := id rfl
@[simp] theorem addD_lst (i j : List D) : addD (.lst i) (.lst j) = chk (decide (i.length + j.length ≤ sizeLine)) (.ok (.lst (i ++ j))) := id rfl
@[simp] theorem addD_tup (i j : List D) : addD (.tup i) (.tup j) = chk (decide (i.length + j.length ≤ sizeLine)) (.ok (.tup (i ++ j))) := id rfl
@[simp] theorem subD_int (i j : Int) : subD (.int i) (.int j) = .ok (.int (i - j)) := id rfl
@[simp] theorem mulD_int (i j : Int) : mulD (.int i) (.int j) = chk (decide ((-(2 ^ 64) < i ∧ i < 2 ^ 64) ∨ (-(2 ^ 64) < j ∧ j < 2 ^ 64))) (.ok (.int (i * j))) := id rfl
@[simp] theorem mulD_lst (xs : List D) (k : Int) : mulD (.lst xs) (.int k) = chk (decide (-(2 ^ 63) ≤ k ∧ k < 2 ^ 63 ∧ xs.length * k.toNat ≤ sizeLine)) (.ok (.lst (List.replicate k.toNat xs).flatten)) := id rfl
@[simp] theorem fdivD_int (i j : Int) : fdivD (.int i) (.int j) = chk (decide (0 < j ∧ j < 1073741824)) (.ok (.int (i / j))) := id rfl
@[simp] theorem modD_int (i j : Int) : modD (.int i) (.int j) = chk (decide (0 < j)) (.ok (.int (i % j))) := id rfl
@[simp] theorem powD_int (i j : Int) : powD (.int i) (.int j) = chk (decide (0 ≤ j ∧ j ≤ 1000000 ∧ i.natAbs < 2 ^ 64)) (.ok (.int (i ^ j.toNat))) := id rfl
@[simp] theorem intD_int (i : Int) : intD (.int i) = .ok (.int i) := id rfl
@[simp] theorem intD_bl (b : Bool) : intD (.bl b) = .ok (.int (if b then 1 else 0)) := id rfl
@[simp] theorem negD_int (i : Int) : negD (.int i) = .ok (.int (-i)) := id rfl
@[simp] theorem items_lst (ds : List D) : items (.lst ds) = some ds := id rfl
@[simp] theorem items_tup (ds : List D) : items (.tup ds) = some ds := id rfl
@[simp] theorem items_fz (ds : List D) : items (.fz ds) = some ds := id rfl
@[simp] theorem listD_lst (ds : List D) : listD (.lst ds) = .ok (.lst ds) := id rfl
@[simp] theorem listD_tup (ds : List D) : listD (.tup ds) = .ok (.lst ds) := id rfl
@[simp] theorem listD_fz (ds : List D) : listD (.fz ds) = .ok (.lst ds) := id rfl
@[simp] theorem tupleD_lst (ds : List D) : tupleD (.lst ds) = .ok (.tup ds) := id rfl
@[simp] theorem tupleD_tup (ds : List D) : tupleD (.tup ds) = .ok (.tup ds) := id rfl
@[simp] theorem revD_lst (ds : List D) : revD (.lst ds) = .ok (.lst ds.reverse) := id rfl
def ixL (ds : List D) (i : Int) : Oc D := match atI ds i with
  | some x => .ok x
  | none => .st
@[simp] theorem ixD_lst (ds : List D) (i : Int) : ixD (.lst ds) (.int i) = ixL ds i := id rfl
@[simp] theorem ixD_tup (ds : List D) (i : Int) : ixD (.tup ds) (.int i) = ixL ds i := id rfl
@[simp] theorem ixD_fz (ds : List D) (i : Int) : ixD (.fz ds) (.int i) = ixL ds i := id rfl
theorem ixL_nat {ds : List D} {i : Nat} {d : D} (h : ds[i]? = some d) : ixL ds (i : Int) = .ok d := by
  unfold ixL
  rw [atI_nat h]
theorem ixL_int {ds : List D} {i : Int} {d : D} (h0 : 0 ≤ i) (h : ds[i.toNat]? = some d) : ixL ds i = .ok d := by
  have e : i = (i.toNat : Int) := by omega
  rw [e]
  exact ixL_nat h
theorem forL_nil (T : Tg) (b : En → Oc Res) (ρ : En) : forL T b [] ρ = .ok (.nx ρ) := rfl
theorem forL_cons (T : Tg) (b : En → Oc Res) (d : D) (ds : List D) (ρ : En) : forL T b (d :: ds) ρ = bd (bindT T d ρ) fun ρ1 => bd (b ρ1) fun r => match r with
    | .nx ρ2 => forL T b ds ρ2
    | .ct ρ2 => forL T b ds ρ2
    | .bk ρ2 => .ok (.nx ρ2)
    | .rt d => .ok (.rt d) := rfl
@[simp] theorem bindT_one (i : Nat) (d : D) (ρ : En) : bindT (.one i) d ρ = .ok (ρ.set i (.sh d)) := id rfl

/-! ### evaluation, one construct at a time -/
def contS : Oc Res → (En → Oc Res) → Oc Res
  | .ok (.nx ρ), h => h ρ
  | o, _ => o
@[simp] theorem contS_nx (ρ : En) (h : En → Oc Res) : contS (.ok (.nx ρ)) h = h ρ := id rfl
@[simp] theorem contS_rt (d : D) (h : En → Oc Res) : contS (.ok (.rt d)) h = .ok (.rt d) := id rfl
@[simp] theorem contS_bk (d : En) (h : En → Oc Res) : contS (.ok (.bk d)) h = .ok (.bk d) := id rfl
@[simp] theorem contS_ct (d : En) (h : En → Oc Res) : contS (.ok (.ct d)) h = .ok (.ct d) := id rfl
@[simp] theorem contS_ex (d : Str) (h : En → Oc Res) : contS (.ex d) h = .ex d := id rfl
@[simp] theorem sq_ap (g h : En → Oc Res) (ρ : En) : sq g h ρ = contS (g ρ) h := by
  unfold sq contS
  cases g ρ with
  | st => rfl
  | ex c => rfl
  | ok r => cases r <;> rfl
def vrR : Option Sl → Oc D
  | some (.sh d) => .ok d
  | _ => .st
def voR : Option Sl → Oc D
  | some (.sh d) => .ok d
  | some (.ow d) => .ok d
  | _ => .st
@[simp] theorem vr_ap (i : Nat) (ρ : En) : vr i ρ = vrR ρ[i]? := by
  unfold vr vrR
  split <;> first | rfl | (split <;> simp_all)
@[simp] theorem vo_ap (i : Nat) (ρ : En) : vo i ρ = voR ρ[i]? := by
  unfold vo voR
  split <;> first | rfl | (split <;> simp_all)
@[simp] theorem vrR_sh (d : D) : vrR (some (.sh d)) = .ok d := id rfl
@[simp] theorem voR_sh (d : D) : voR (some (.sh d)) = .ok d := id rfl
@[simp] theorem voR_ow (d : D) : voR (some (.ow d)) = .ok d := id rfl
@[simp] theorem cst_ap (d : D) (ρ : En) : cst d ρ = .ok d := id rfl
@[simp] theorem bi_ap (F : D → D → Oc D) (f g : En → Oc D) (ρ : En) : bi F f g ρ = bd (f ρ) fun x => bd (g ρ) fun y => F x y := id rfl
@[simp] theorem un_ap (F : D → Oc D) (f : En → Oc D) (ρ : En) : un F f ρ = bd (f ρ) F := id rfl
def asgR (i : Nat) (ρ : En) : Oc D → Oc Res
  | .ok d => .ok (.nx (ρ.set i (.sh d)))
  | .st => .st
  | .ex c => .ex c
@[simp] theorem asg_ap (i : Nat) (f : En → Oc D) (ρ : En) : asg i f ρ = asgR i ρ (f ρ) := by unfold asg asgR; cases f ρ <;> rfl
@[simp] theorem asgR_ok (i : Nat) (ρ : En) (d : D) : asgR i ρ (.ok d) = .ok (.nx (ρ.set i (.sh d))) := id rfl
def asgOR (i : Nat) (ρ : En) : Oc D → Oc Res
  | .ok (.lst ds) => .ok (.nx (ρ.set i (.ow (.lst ds))))
  | .ex c => .ex c
  | _ => .st
@[simp] theorem asgO_ap (i : Nat) (f : En → Oc D) (ρ : En) : asgO i f ρ = asgOR i ρ (f ρ) := by
  unfold asgO asgOR
  cases f ρ with
  | st => rfl
  | ex c => rfl
  | ok d => cases d <;> rfl
@[simp] theorem asgOR_ok (i : Nat) (ρ : En) (ds : List D) : asgOR i ρ (.ok (.lst ds)) = .ok (.nx (ρ.set i (.ow (.lst ds)))) := id rfl
def retR : Oc D → Oc Res
  | .ok d => .ok (.rt d)
  | .st => .st
  | .ex c => .ex c
@[simp] theorem ret_ap (f : En → Oc D) (ρ : En) : Fx.ret f ρ = retR (f ρ) := by unfold Fx.ret retR; cases f ρ <;> rfl
@[simp] theorem retR_ok (d : D) : retR (.ok d) = .ok (.rt d) := id rfl
@[simp] theorem retR_ex (d : Str) : retR (.ex d) = .ex d := id rfl
def exsR (ρ : En) : Oc D → Oc Res
  | .ok d => .ok (.nx ρ)
  | .st => .st
  | .ex c => .ex c
@[simp] theorem exs_ap (f : En → Oc D) (ρ : En) : exs f ρ = exsR ρ (f ρ) := by unfold exs exsR; cases f ρ <;> rfl
@[simp] theorem exsR_ok (ρ : En) (d : D) : exsR ρ (.ok d) = .ok (.nx ρ) := id rfl
@[simp] theorem exsR_ex (ρ : En) (d : Str) : exsR ρ (.ex d) = .ex d := id rfl
@[simp] theorem sNx_ap (ρ : En) : sNx ρ = .ok (.nx ρ) := id rfl
@[simp] theorem sBk_ap (ρ : En) : sBk ρ = .ok (.bk ρ) := id rfl
@[simp] theorem sCt_ap (ρ : En) : sCt ρ = .ok (.ct ρ) := id rfl
@[simp] theorem retN_ap (ρ : En) : retN ρ = .ok (.rt .non) := id rfl
def iffR : Oc Bool → (En → Oc Res) → (En → Oc Res) → En → Oc Res
  | .ok true, g, _, ρ => g ρ
  | .ok false, _, h, ρ => h ρ
  | .st, _, _, _ => .st
  | .ex c, _, _, _ => .ex c
@[simp] theorem iff_ap (t : En → Oc Bool) (g h : En → Oc Res) (ρ : En) : iff t g h ρ = iffR (t ρ) g h ρ := by
  unfold iff iffR
  cases t ρ with
  | st => rfl
  | ex c => rfl
  | ok b => cases b <;> rfl
@[simp] theorem iffR_true (g h : En → Oc Res) (ρ : En) : iffR (.ok true) g h ρ = g ρ := id rfl
@[simp] theorem iffR_false (g h : En → Oc Res) (ρ : En) : iffR (.ok false) g h ρ = h ρ := id rfl
def tstR : Oc D → Oc Bool
  | .ok (.bl b) => .ok b
  | .ex c => .ex c
  | _ => .st
@[simp] theorem tst_ap (f : En → Oc D) (ρ : En) : tst f ρ = tstR (f ρ) := by
  unfold tst tstR
  cases f ρ with
  | st => rfl
  | ex c => rfl
  | ok d => cases d <;> rfl
@[simp] theorem tstR_bl (b : Bool) : tstR (.ok (.bl b)) = .ok b := id rfl
def anR : Oc Bool → (En → Oc Bool) → En → Oc Bool
  | .ok true, u, ρ => u ρ
  | .ok false, _, _ => .ok false
  | .st, _, _ => .st
  | .ex c, _, _ => .ex c
def orR : Oc Bool → (En → Oc Bool) → En → Oc Bool
  | .ok true, _, _ => .ok true
  | .ok false, u, ρ => u ρ
  | .st, _, _ => .st
  | .ex c, _, _ => .ex c
@[simp] theorem an_ap (t u : En → Oc Bool) (ρ : En) : an t u ρ = anR (t ρ) u ρ := by
  unfold an anR
  cases t ρ with
  | st => rfl
  | ex c => rfl
  | ok b => cases b <;> rfl
@[simp] theorem orr_ap (t u : En → Oc Bool) (ρ : En) : orr t u ρ = orR (t ρ) u ρ := by
  unfold orr orR
  cases t ρ with
  | st => rfl
  | ex c => rfl
  | ok b => cases b <;> rfl
@[simp] theorem anR_true (u : En → Oc Bool) (ρ : En) : anR (.ok true) u ρ = u ρ := id rfl
@[simp] theorem anR_false (u : En → Oc Bool) (ρ : En) : anR (.ok false) u ρ = .ok false := id rfl
@[simp] theorem orR_true (u : En → Oc Bool) (ρ : En) : orR (.ok true) u ρ = .ok true := id rfl
@[simp] theorem orR_false (u : En → Oc Bool) (ρ : En) : orR (.ok false) u ρ = u ρ := id rfl
theorem anR_both {b c : Bool} {u : En → Oc Bool} {ρ : En} (h : u ρ = .ok c) : anR (.ok b) u ρ = .ok (b && c) := by cases b <;> simp [h]
theorem orR_both {b c : Bool} {u : En → Oc Bool} {ρ : En} (h : u ρ = .ok c) : orR (.ok b) u ρ = .ok (b || c) := by cases b <;> simp [h]
@[simp] theorem nt_ap (t : En → Oc Bool) (ρ : En) : nt t ρ = bd (t ρ) fun b => .ok (!b) := id rfl
def anVR : Oc D → (En → Oc D) → En → Oc D
  | .ok (.bl true), u, ρ => u ρ
  | .ok (.bl false), _, _ => .ok (.bl false)
  | .ex c, _, _ => .ex c
  | _, _, _ => .st
def orVR : Oc D → (En → Oc D) → En → Oc D
  | .ok (.bl true), _, _ => .ok (.bl true)
  | .ok (.bl false), u, ρ => u ρ
  | .ex c, _, _ => .ex c
  | _, _, _ => .st
@[simp] theorem anV_ap (f g : En → Oc D) (ρ : En) : anV f g ρ = anVR (f ρ) g ρ := by
  unfold anV anVR
  cases f ρ with
  | st => rfl
  | ex c => rfl
  | ok d => cases d with
    | bl b => cases b <;> rfl
    | _ => rfl
@[simp] theorem orV_ap (f g : En → Oc D) (ρ : En) : orV f g ρ = orVR (f ρ) g ρ := by
  unfold orV orVR
  cases f ρ with
  | st => rfl
  | ex c => rfl
  | ok d => cases d with
    | bl b => cases b <;> rfl
    | _ => rfl
@[simp] theorem anVR_true (u : En → Oc D) (ρ : En) : anVR (.ok (.bl true)) u ρ = u ρ := id rfl
@[simp] theorem anVR_false (u : En → Oc D) (ρ : En) : anVR (.ok (.bl false)) u ρ = .ok (.bl false) := id rfl
@[simp] theorem orVR_true (u : En → Oc D) (ρ : En) : orVR (.ok (.bl true)) u ρ = .ok (.bl true) := id rfl
@[simp] theorem orVR_false (u : En → Oc D) (ρ : En) : orVR (.ok (.bl false)) u ρ = u ρ := id rfl
theorem anVR_both {b c : Bool} {u : En → Oc D} {ρ : En} (h : u ρ = .ok (.bl c)) : anVR (.ok (.bl b)) u ρ = .ok (.bl (b && c)) := by cases b <;> simp [h]
theorem orVR_both {b c : Bool} {u : En → Oc D} {ρ : En} (h : u ρ = .ok (.bl c)) : orVR (.ok (.bl b)) u ρ = .ok (.bl (b || c)) := by cases b <;> simp [h]
def ntVR : Oc D → Oc D
  | .ok (.bl b) => .ok (.bl (!b))
  | .ex c => .ex c
  | _ => .st
@[simp] theorem ntV_ap (f : En → Oc D) (ρ : En) : ntV f ρ = ntVR (f ρ) := by
  unfold ntV ntVR
  cases f ρ with
  | st => rfl
  | ex c => rfl
  | ok d => cases d <;> rfl
@[simp] theorem ntVR_bl (b : Bool) : ntVR (.ok (.bl b)) = .ok (.bl (!b)) := id rfl
def ifXR : Oc Bool → (En → Oc D) → (En → Oc D) → En → Oc D
  | .ok true, g, _, ρ => g ρ
  | .ok false, _, h, ρ => h ρ
  | .st, _, _, _ => .st
  | .ex c, _, _, _ => .ex c
@[simp] theorem ifX_ap (t : En → Oc Bool) (g h : En → Oc D) (ρ : En) : ifX t g h ρ = ifXR (t ρ) g h ρ := by
  unfold ifX ifXR
  cases t ρ with
  | st => rfl
  | ex c => rfl
  | ok b => cases b <;> rfl
@[simp] theorem ifXR_true (g h : En → Oc D) (ρ : En) : ifXR (.ok true) g h ρ = g ρ := id rfl
@[simp] theorem ifXR_false (g h : En → Oc D) (ρ : En) : ifXR (.ok false) g h ρ = h ρ := id rfl
@[simp] theorem aN_ap (ρ : En) : aN ρ = .ok [] := id rfl
@[simp] theorem aC_ap (f : En → Oc D) (fs : En → Oc (List D)) (ρ : En) : aC f fs ρ = bd (f ρ) fun d => bd (fs ρ) fun ds => .ok (d :: ds) := id rfl
@[simp] theorem tpl_ap (fs : En → Oc (List D)) (ρ : En) : tpl fs ρ = bd (fs ρ) fun ds => chk (decide (ds.length ≤ sizeLine)) (.ok (.tup ds)) := id rfl
@[simp] theorem lsd_ap (fs : En → Oc (List D)) (ρ : En) : lsd fs ρ = bd (fs ρ) fun ds => chk (decide (ds.length ≤ sizeLine)) (.ok (.lst ds)) := id rfl
@[simp] theorem cal_ap (F : List D → Oc D) (n : Nat) (dds : List D) (fs : En → Oc (List D)) (ρ : En) : cal F n dds fs ρ = bd (fs ρ) fun ds => chk (decide (ds.length = n)) (F (ds ++ dds)) := id rfl
@[simp] theorem itm_ap (f : En → Oc D) (ρ : En) : itm f ρ = bd (f ρ) fun d => match items d with | some ds => .ok ds | none => .st := id rfl
def rngB (j : Int) : Bool := decide (-(2 ^ 62) ≤ j ∧ j < 2 ^ 62)
theorem rngB_ok {j : Int} (h0 : 0 ≤ j) (h : j ≤ 1000000) : rngB j = true := decide_eq_true (by omega)
def rng1R : List D → Oc (List D)
  | [.int j] => chk (rngB j) (.ok (rngL 0 j.toNat))
  | _ => .st
@[simp] theorem rng1_ap (fs : En → Oc (List D)) (ρ : En) : rng1 fs ρ = bd (fs ρ) rng1R := by
  unfold rng1
  congr 1
@[simp] theorem rng1R_int (j : Int) : rng1R [.int j] = chk (rngB j) (.ok (rngL 0 j.toNat)) := id rfl
theorem rng1R_nat {n : Nat} (h : n ≤ 1000000) : rng1R [.int n] = .ok (rngL 0 n) := by
  rw [rng1R_int, rngB_ok (by omega) (by omega)]; rfl
def frR (T : Tg) (b : En → Oc Res) (ρ : En) : Oc (List D) → Oc Res
  | .ok ds => forL T b ds ρ
  | .st => .st
  | .ex c => .ex c
@[simp] theorem fr_ap (T : Tg) (src : En → Oc (List D)) (b : En → Oc Res) (ρ : En) : fr T src b ρ = frR T b ρ (src ρ) := by unfold fr frR; cases src ρ <;> rfl
@[simp] theorem frR_ok (T : Tg) (b : En → Oc Res) (ρ : En) (ds : List D) : frR T b ρ (.ok ds) = forL T b ds ρ := id rfl
def goOn (T : Tg) (b : En → Oc Res) (ds : List D) : Oc Res → Oc Res
  | .ok (.nx ρ) => forL T b ds ρ
  | .ok (.ct ρ) => forL T b ds ρ
  | .ok (.bk ρ) => .ok (.nx ρ)
  | .ok (.rt d) => .ok (.rt d)
  | .st => .st
  | .ex c => .ex c
theorem forL_step {T : Tg} {b : En → Oc Res} {d : D} {ds : List D} {ρ ρ1 : En} (h : bindT T d ρ = .ok ρ1) : forL T b (d :: ds) ρ = goOn T b ds (b ρ1) := by
  rw [forL_cons, h]
  simp only [bd_ok]
  unfold goOn
  cases b ρ1 with
  | st => rfl
  | ex c => rfl
  | ok r => cases r <;> rfl
@[simp] theorem goOn_nx (T : Tg) (b : En → Oc Res) (ds : List D) (ρ : En) : goOn T b ds (.ok (.nx ρ)) = forL T b ds ρ := id rfl
@[simp] theorem goOn_ct (T : Tg) (b : En → Oc Res) (ds : List D) (ρ : En) : goOn T b ds (.ok (.ct ρ)) = forL T b ds ρ := id rfl
@[simp] theorem goOn_bk (T : Tg) (b : En → Oc Res) (ds : List D) (ρ : En) : goOn T b ds (.ok (.bk ρ)) = .ok (.nx ρ) := id rfl
@[simp] theorem goOn_rt (T : Tg) (b : En → Oc Res) (ds : List D) (d : D) : goOn T b ds (.ok (.rt d)) = .ok (.rt d) := id rfl
theorem forL_inv {T : Tg} {b : En → Oc Res} (I : List D → En → Prop) : ∀ {ds : List D} {ρ : En}, I ds ρ →
    (∀ d ds ρ, I (d :: ds) ρ → ∃ ρ1 ρ2, bindT T d ρ = .ok ρ1 ∧ (b ρ1 = .ok (.nx ρ2) ∨ b ρ1 = .ok (.ct ρ2)) ∧ I ds ρ2) → ∃ ρ2, forL T b ds ρ = .ok (.nx ρ2) ∧ I [] ρ2
  | [], ρ, h, _ => ⟨ρ, rfl, h⟩
  | d :: ds, ρ, h, st => by
    obtain ⟨ρ1, ρ2, h1, h2, h3⟩ := st d ds ρ h
    rw [forL_step h1]
    rcases h2 with h2 | h2 <;> rw [h2] <;> simp only [goOn_nx, goOn_ct] <;> exact forL_inv I h3 st
def appR (i : Nat) (ρ : En) : Option Sl → Oc D → Oc Res
  | some (.ow (.lst ds)), .ok d => chk (decide (ds.length < sizeLine)) (.ok (.nx (ρ.set i (.ow (.lst (ds ++ [d]))))))
  | some (.ow (.lst _)), .ex c => .ex c
  | _, _ => .st
@[simp] theorem app_ap (i : Nat) (f : En → Oc D) (ρ : En) : app i f ρ = appR i ρ ρ[i]? (f ρ) := by
  unfold app
  cases h : ρ[i]? with
  | none => rfl
  | some s =>
    cases s with
    | no => rfl
    | sh d => rfl
    | ow d =>
      cases d with
      | lst ds => cases f ρ <;> rfl
      | _ => rfl
theorem appR_ok {i : Nat} {ρ : En} {ds : List D} {d : D} (h : ds.length ≤ 1000000) : appR i ρ (some (.ow (.lst ds))) (.ok d) = .ok (.nx (ρ.set i (.ow (.lst (ds ++ [d]))))) := by
  show chk (decide (ds.length < sizeLine)) (Oc.ok (Res.nx (ρ.set i (.ow (.lst (ds ++ [d])))))) = _
  rw [decide_eq_true (by rw [sizeLine_val]; omega)]
  rfl
@[simp] theorem frz_ap (i : Nat) (g : En → Oc Res) (ρ : En) : frz i g ρ = g (freeze i ρ) := id rfl
def freezeR (i : Nat) (ρ : En) : Option Sl → En
  | some (.ow d) => ρ.set i (.sh d)
  | _ => ρ
@[simp] theorem freeze_ap (i : Nat) (ρ : En) : freeze i ρ = freezeR i ρ ρ[i]? := by
  unfold freeze freezeR
  split <;> first | rfl | (split <;> simp_all)
@[simp] theorem freezeR_ow (i : Nat) (ρ : En) (d : D) : freezeR i ρ (some (.ow d)) = ρ.set i (.sh d) := id rfl
@[simp] theorem freezeR_sh (i : Nat) (ρ : En) (d : D) : freezeR i ρ (some (.sh d)) = ρ := id rfl
def augR2 (i : Nat) (ρ : En) : Oc D → Oc D → Oc Res
  | .ok (.int m), .ok (.int n) => .ok (.nx (ρ.set i (.sh (.int (m + n)))))
  | .ok _, .ex c => .ex c
  | .ex c, _ => .ex c
  | _, _ => .st
theorem augA_ok {i : Nat} {f : En → Oc D} {ρ : En} {m n : Int} (h1 : vr i ρ = .ok (.int m)) (h2 : f ρ = .ok (.int n)) : augA i f ρ = .ok (.nx (ρ.set i (.sh (.int (m + n))))) := by
  unfold augA
  rw [h1, h2]
  rfl
theorem augS_ok {i : Nat} {f : En → Oc D} {ρ : En} {m n : Int} (h1 : vr i ρ = .ok (.int m)) (h2 : f ρ = .ok (.int n)) : augS i f ρ = .ok (.nx (ρ.set i (.sh (.int (m - n))))) := by
  unfold augS
  rw [h1, h2]
  rfl
@[simp] theorem fnB_ap (n m : Nat) (g : En → Oc Res) (ds : List D) : fnB n m g ds = chk (decide (ds.length = m)) (outR (g (ds.map .sh ++ List.replicate (n - m) .no))) := id rfl
theorem fnB_ok {n m : Nat} {g : En → Oc Res} {ds : List D} (h : ds.length = m) : fnB n m g ds = outR (g (ds.map .sh ++ List.replicate (n - m) .no)) := by
  unfold fnB
  rw [decide_eq_true h]
  rfl
@[simp] theorem slc_ap (f : En → Oc D) (lo hi : Option (En → Oc D)) (ρ : En) : slc f lo hi ρ = bd (f ρ) fun d => bd (oP lo ρ) fun l => bd (oP hi ρ) fun h => slD d l h := id rfl
def oPR : Oc D → Oc (Option Int)
  | .ok (.int i) => .ok (some i)
  | .ex c => .ex c
  | _ => .st
@[simp] theorem oP_none (ρ : En) : oP none ρ = .ok none := id rfl
@[simp] theorem oP_some (f : En → Oc D) (ρ : En) : oP (some f) ρ = oPR (f ρ) := by
  unfold oP oPR
  simp only
  cases f ρ with
  | st => rfl
  | ex c => rfl
  | ok d => cases d <;> rfl
@[simp] theorem oPR_int (i : Int) : oPR (.ok (.int i)) = .ok (some i) := id rfl
@[simp] theorem slD_str (z : Str) (lo hi : Option Int) : slD (.str z) lo hi = chk (decide (z.length ≤ sizeLine)) (.ok (.str (cutS z lo hi))) := id rfl
@[simp] theorem slD_lst (ds : List D) (lo hi : Option Int) : slD (.lst ds) lo hi = .ok (.lst (cutD ds lo hi)) := id rfl
@[simp] theorem slD_fz (ds : List D) (lo hi : Option Int) : slD (.fz ds) lo hi = .ok (.lst (cutD ds lo hi)) := id rfl
@[simp] theorem slD_tup (ds : List D) (lo hi : Option Int) : slD (.tup ds) lo hi = .ok (.tup (cutD ds lo hi)) := id rfl
@[simp] theorem mtD_ap (tyB : D → Bool) (F : D → List D → Oc D) (f : En → Oc D) (fs : En → Oc (List D)) (ρ : En) : mtD tyB F f fs ρ = bd (f ρ) fun d => chk (tyB d) (bd (fs ρ) fun ds => F d ds) := id rfl
@[simp] theorem isLst_lst (ds : List D) : isLst (.lst ds) = true := id rfl
@[simp] theorem indexM_one (d e : D) : indexM d [e] = indexD d e := id rfl
@[simp] theorem lc_ap (T : Tg) (own : List Nat) (src : En → Oc (List D)) (tt : En → Oc Bool) (el : En → Oc D) (ρ : En) : lc T own src tt el ρ = bd (src ρ) fun ds => chk (decide (ds.length ≤ sizeLine)) (bd (lcL T own tt el ρ ds) fun ys => .ok (.lst ys)) := id rfl
theorem lcL_map {T : Tg} {own : List Nat} {el : En → Oc D} {ρ : En} {α : Type} {f h : α → D} : ∀ {xs : List α}, (∀ x ∈ xs, ∃ ρ1, bindT T (f x) (wipeE ρ own) = .ok ρ1 ∧ el ρ1 = .ok (h x)) → lcL T own yes el ρ (xs.map f) = .ok (xs.map h)
  | [], _ => rfl
  | x :: xs, k => by
    obtain ⟨ρ1, h1, h2⟩ := k x List.mem_cons_self
    have ih := lcL_map (xs := xs) fun y hy => k y (List.mem_cons_of_mem _ hy)
    rw [List.map_cons, List.map_cons]
    unfold lcL
    rw [h1]
    simp only [noex_ok, bd_ok, yes]
    simp only [if_true, h2, noex_ok, bd_ok, ih]
theorem lcL_filter {T : Tg} {own : List Nat} {tt : En → Oc Bool} {el : En → Oc D} {ρ : En} {α : Type} {f h : α → D} {p : α → Bool} : ∀ {xs : List α}, (∀ x ∈ xs, ∃ ρ1, bindT T (f x) (wipeE ρ own) = .ok ρ1 ∧ tt ρ1 = .ok (p x) ∧ (p x = true → el ρ1 = .ok (h x))) → lcL T own tt el ρ (xs.map f) = .ok ((xs.filter p).map h)
  | [], _ => rfl
  | x :: xs, k => by
    obtain ⟨ρ1, h1, h2, h3⟩ := k x List.mem_cons_self
    have ih := lcL_filter (xs := xs) fun y hy => k y (List.mem_cons_of_mem _ hy)
    rw [List.map_cons]
    unfold lcL
    rw [h1]
    simp only [noex_ok, bd_ok, h2]
    cases hp : p x with
    | true =>
      rw [List.filter_cons_of_pos hp, List.map_cons]
      simp only [if_true, h3 hp, noex_ok, bd_ok, ih]
    | false =>
      rw [List.filter_cons_of_neg (by rw [hp]; decide)]
      simp only [Bool.false_eq_true, if_false, ih]
@[simp] theorem isiD_bl_bool (b : Bool) : isiD "bool" (.bl b) = .ok (.bl true) := by unfold isiD; simp only [tyName]; rfl
end Fx

set_option Elab.async false
set_option linter.all false
set_option maxRecDepth 100000
set_option maxHeartbeats 4000000
/-! Fx8: plain data compared. -/
namespace Fx
open PySem PySem.Spec PyProof.Rows L2
open PySem.PyData (strOk)
structure Pn (n : Nat) (d : D) (p : PyData) : Prop where
  pd : toPD d = some p
  lay : p.canLay0 = true
  dep : p.depth ≤ n
structure PnL (n : Nat) (ds : List D) (ps : List PyData) : Prop where
  pd : toPDs ds = some ps
  lay : PyData.canLayAll0 ps = true
  dep : PyData.depthAll ps ≤ n
theorem Pn.int (n : Nat) (i : Int) : Pn n (.int i) (.int i) := ⟨rfl, by simp [PyData.canLay0], by simp [PyData.depth]⟩
theorem Pn.bl (n : Nat) (i : Bool) : Pn n (.bl i) (.bool i) := ⟨rfl, by simp [PyData.canLay0], by simp [PyData.depth]⟩
theorem Pn.non (n : Nat) : Pn n .non .none := ⟨rfl, by simp [PyData.canLay0], by simp [PyData.depth]⟩
theorem Pn.str (n : Nat) {x : Str} (h : strOk x = true) : Pn n (.str x) (.str x) := ⟨rfl, by simp [PyData.canLay0, h], by simp [PyData.depth]⟩
theorem PnL.lst {n : Nat} {ds : List D} {ps : List PyData} (h : PnL n ds ps) : Pn (n + 1) (.lst ds) (.list ps) := ⟨by simp [toPD, h.pd], by simp [PyData.canLay0, h.lay], by have := h.dep; simp only [PyData.depth]; omega⟩
theorem PnL.tup {n : Nat} {ds : List D} {ps : List PyData} (h : PnL n ds ps) : Pn (n + 1) (.tup ds) (.tuple ps) := ⟨by simp [toPD, h.pd], by simp [PyData.canLay0, h.lay], by have := h.dep; simp only [PyData.depth]; omega⟩
theorem PnL.nil (n : Nat) : PnL n [] [] := ⟨rfl, by simp [PyData.canLayAll0], by simp [PyData.depthAll]⟩
theorem PnL.cons {n : Nat} {d : D} {p : PyData} {ds : List D} {ps : List PyData} (h : Pn n d p) (t : PnL n ds ps) : PnL n (d :: ds) (p :: ps) := ⟨by simp [toPDs, h.pd, t.pd], by simp [PyData.canLayAll0, h.lay, t.lay], by have := h.dep; have := t.dep; simp only [PyData.depthAll]; omega⟩
theorem PnL.map {α : Type} {n : Nat} {f : α → D} {g : α → PyData} : ∀ {xs : List α}, (∀ x ∈ xs, Pn n (f x) (g x)) → PnL n (xs.map f) (xs.map g)
  | [], _ => .nil n
  | x :: xs, h => .cons (h x List.mem_cons_self) (PnL.map fun y hy => h y (List.mem_cons_of_mem _ hy))
theorem Pn.shaped {n : Nat} {d : D} {p : PyData} (h : Pn n d p) (hn : n ≤ 64) : SeqAt.shaped p = true := by
  show (p.canLay0 && decide (p.depth ≤ 64)) = true
  rw [h.lay, decide_eq_true (Nat.le_trans h.dep hn)]
  rfl
theorem eqD_val {n m : Nat} {d e : D} {p q : PyData} (h : Pn n d p) (k : Pn m e q) (hn : n ≤ 64 := by decide) (hm : m ≤ 64 := by decide) : eqD d e = .ok (.bl (PyData.eqv p q)) := by
  unfold eqD
  rw [h.pd, k.pd]
  simp only [h.shaped hn, k.shaped hm, Bool.and_self, chk_true]
theorem neD_val {n m : Nat} {d e : D} {p q : PyData} (h : Pn n d p) (k : Pn m e q) (hn : n ≤ 64 := by decide) (hm : m ≤ 64 := by decide) : neD d e = .ok (.bl (!PyData.eqv p q)) := by
  unfold neD
  rw [h.pd, k.pd]
  simp only [h.shaped hn, k.shaped hm, Bool.and_self, chk_true]
theorem eqD_refl {n : Nat} {d : D} {p : PyData} (h : Pn n d p) (hn : n ≤ 64 := by decide) : eqD d d = .ok (.bl true) := by
  rw [eqD_val h h hn hn, SeqAt.eqv_refl p h.lay]
theorem neD_refl {n : Nat} {d : D} {p : PyData} (h : Pn n d p) (hn : n ≤ 64 := by decide) : neD d d = .ok (.bl false) := by
  rw [neD_val h h hn hn, SeqAt.eqv_refl p h.lay]
  rfl
theorem inB_lst {n m : Nat} {d : D} {p : PyData} {ds : List D} {ps : List PyData} (h : Pn n d p) (k : PnL m ds ps) (hn : n ≤ 64 := by decide) (hm : m ≤ 63 := by decide) : inB d (.lst ds) = some (ps.any fun z => PyData.eqv z p) := by
  have e1 : inB d (.lst ds) = (match toPD d, toPD (.lst ds) with
    | some p, some (.list ps) => if SeqAt.shaped p && SeqAt.shaped (.list ps) then some (ps.any fun z => PyData.eqv z p) else none
    | some p, some (.tuple ps) => if SeqAt.shaped p && SeqAt.shaped (.tuple ps) then some (ps.any fun z => PyData.eqv z p) else none
    | _, _ => none) := by
    unfold inB
    cases d <;> rfl
  rw [e1, h.pd, k.lst.pd]
  simp only [h.shaped hn, k.lst.shaped (Nat.succ_le_succ hm), Bool.and_self, if_true]
theorem inB_tup {n m : Nat} {d : D} {p : PyData} {ds : List D} {ps : List PyData} (h : Pn n d p) (k : PnL m ds ps) (hn : n ≤ 64 := by decide) (hm : m ≤ 63 := by decide) : inB d (.tup ds) = some (ps.any fun z => PyData.eqv z p) := by
  have e1 : inB d (.tup ds) = (match toPD d, toPD (.tup ds) with
    | some p, some (.list ps) => if SeqAt.shaped p && SeqAt.shaped (.list ps) then some (ps.any fun z => PyData.eqv z p) else none
    | some p, some (.tuple ps) => if SeqAt.shaped p && SeqAt.shaped (.tuple ps) then some (ps.any fun z => PyData.eqv z p) else none
    | _, _ => none) := by
    unfold inB
    cases d <;> rfl
  rw [e1, h.pd, k.tup.pd]
  simp only [h.shaped hn, k.tup.shaped (Nat.succ_le_succ hm), Bool.and_self, if_true]
@[simp] theorem eqv_int (i j : Int) : PyData.eqv (.int i) (.int j) = (i == j) := by simp [PyData.eqv]
@[simp] theorem eqv_bl (i j : Bool) : PyData.eqv (.bool i) (.bool j) = (i == j) := by simp [PyData.eqv]
@[simp] theorem eqv_str (i j : Str) : PyData.eqv (.str i) (.str j) = (i == j) := by simp [PyData.eqv]
theorem any_mem {α : Type} [DecidableEq α] (xs : List α) (a : α) : (xs.any fun x => x == a) = decide (a ∈ xs) := by
  rw [Bool.eq_iff_iff, List.any_eq_true]
  simp
theorem inB_ints (i : Int) (is : List Int) : inB (.int i) (.lst (is.map .int)) = some (decide (i ∈ is)) := by
  rw [inB_lst (Pn.int 0 i) (PnL.map (n := 0) (g := PyData.int) fun x _ => Pn.int 0 x)]
  rw [List.any_map, ← any_mem]
  congr 2
  try (funext x; simp)
theorem inB_bls (i : Bool) (is : List Bool) : inB (.bl i) (.lst (is.map .bl)) = some (decide (i ∈ is)) := by
  rw [inB_lst (Pn.bl 0 i) (PnL.map (n := 0) (g := PyData.bool) fun x _ => Pn.bl 0 x)]
  rw [List.any_map, ← any_mem]
  congr 2
  try (funext x; simp)
theorem inB_strs {i : Str} {is : List Str} (h : strOk i = true) (hs : ∀ x ∈ is, strOk x = true) : inB (.str i) (.lst (is.map .str)) = some (decide (i ∈ is)) := by
  rw [inB_lst (Pn.str 0 h) (PnL.map (n := 0) (g := PyData.str) fun x hx => Pn.str 0 (hs x hx))]
  rw [List.any_map, ← any_mem]
  congr 2
  try (funext x; simp)
theorem inD_of {d e : D} {b : Bool} (h : inB d e = some b) : inD d e = .ok (.bl b) := by unfold inD; rw [h]
theorem ninD_of {d e : D} {b : Bool} (h : inB d e = some b) : ninD d e = .ok (.bl (!b)) := by unfold ninD; rw [h]
theorem indexD_strs {a : Str} {ns : List Str} (h : strOk a = true) (hs : ∀ x ∈ ns, strOk x = true) (ha : a ∈ ns) : indexD (.lst (ns.map .str)) (.str a) = .ok (.int (ns.idxOf a : Nat)) := by
  have k : PnL 0 (ns.map D.str) (ns.map PyData.str) := PnL.map fun x hx => Pn.str 0 (hs x hx)
  unfold indexD
  simp only [k.pd, (Pn.str 0 h).pd]
  have e : (ns.map PyData.str).findIdx? (fun z => PyData.eqv z (.str a)) = some (ns.idxOf a) := by
    rw [List.findIdx?_map]
    have hf : ((fun z => PyData.eqv z (PyData.str a)) ∘ PyData.str) = fun x => x == a := by
      funext x; simp
    rw [hf]
    rw [List.findIdx?_eq_some_iff_getElem]
    have hl := List.idxOf_lt_length_of_mem ha
    refine ⟨hl, by simp, fun j hj => ?_⟩
    have := List.not_of_lt_findIdx (p := fun x => x == a) (xs := ns) (i := j) (by simpa [List.idxOf] using hj)
    simpa using this
  rw [e]
  simp only [k.lst.shaped (by decide), (Pn.str 0 h).shaped (by decide), Bool.and_self, chk_true]
theorem ixL_map {α : Type} {f : α → D} {xs : List α} {i : Nat} {x : α} (h : xs[i]? = some x) : ixL (xs.map f) (i : Int) = .ok (f x) := ixL_nat (by rw [List.getElem?_map, h]; rfl)
theorem ixL_mapZ {α : Type} {f : α → D} {xs : List α} {i : Int} {x : α} (h0 : 0 ≤ i) (h : xs[i.toNat]? = some x) : ixL (xs.map f) i = .ok (f x) := ixL_int h0 (by rw [List.getElem?_map, h]; rfl)
/-! ### while, by a word and a number that falls -/
theorem whF_succ (t : En → Oc Bool) (b : En → Oc Res) (n : Nat) (ρ : En) (h : t ρ = .ok true) {ρ' : En} (hb : b ρ = .ok (.nx ρ') ∨ b ρ = .ok (.ct ρ')) : whF t b (n + 1) ρ = whF t b n ρ' := by
  show (bd (t ρ) fun c => if c then bd (b ρ) fun r => match r with
    | .nx ρ' => whF t b n ρ'
    | .ct ρ' => whF t b n ρ'
    | .bk ρ' => .ok (.nx ρ')
    | .rt d => .ok (.rt d)
    else .ok (.nx ρ)) = _
  rw [h]
  simp only [bd_ok, if_true]
  rcases hb with hb | hb <;> rw [hb] <;> rfl
theorem whF_stop (t : En → Oc Bool) (b : En → Oc Res) (n : Nat) (ρ : En) (h : t ρ = .ok false) : whF t b (n + 1) ρ = .ok (.nx ρ) := by
  show (bd (t ρ) fun c => if c then bd (b ρ) fun r => match r with
    | .nx ρ' => whF t b n ρ'
    | .ct ρ' => whF t b n ρ'
    | .bk ρ' => .ok (.nx ρ')
    | .rt d => .ok (.rt d)
    else .ok (.nx ρ)) = _
  rw [h]
  simp
theorem wh_inv {t : En → Oc Bool} {b : En → Oc Res} (I : Nat → En → Prop) (h : ∀ m ρ, I m ρ → t ρ = .ok false ∨ (t ρ = .ok true ∧ ∃ ρ' m', m' < m ∧ (b ρ = .ok (.nx ρ') ∨ b ρ = .ok (.ct ρ')) ∧ I m' ρ')) {m : Nat} {ρ : En} (h0 : I m ρ) :
    ∃ ρ' m', wh t b ρ = .ok (.nx ρ') ∧ I m' ρ' ∧ t ρ' = .ok false := by
  have key : ∀ m ρ, I m ρ → ∃ n ρ' m', whF t b n ρ = .ok (.nx ρ') ∧ I m' ρ' ∧ t ρ' = .ok false := by
    intro m
    induction m using Nat.strongRecOn with
    | ind m ih =>
      intro ρ hI
      rcases h m ρ hI with hf | ⟨ht, ρ', m', hm, hb, hI'⟩
      · exact ⟨1, ρ, m, whF_stop t b 0 ρ hf, hI, hf⟩
      · obtain ⟨n, ρ2, m2, h1, h2, h3⟩ := ih m' hm ρ' hI'
        exact ⟨n + 1, ρ2, m2, by rw [whF_succ t b n ρ ht hb, h1], h2, h3⟩
  obtain ⟨n, ρ', m', h1, h2, h3⟩ := key m ρ h0
  exact ⟨ρ', m', wh_of h1 (by intro z; cases z), h2, h3⟩
@[simp] theorem setF_ap (i : Nat) (cs : List Str) (n : Str) (f : En → Oc D) (ρ : En) : setF i cs n f ρ = bd (f ρ) fun d => match ρ[i]? with
  | some (.ow (.obj c fs)) => chk (decide (c ∈ cs) && decide (fs.length < 1000)) (.ok (.nx (ρ.set i (.ow (.obj c (putD n d fs))))))
  | _ => .st := id rfl
@[simp] theorem fnI_ap (c : Str) (n m : Nat) (g : En → Oc Res) (ds : List D) : fnI c n m g ds = chk (decide (ds.length = m)) (outI (g (.ow (.obj c []) :: (ds.map .sh ++ List.replicate (n - m) .no)))) := id rfl
@[simp] theorem outI_nx (c : Str) (fs : List (Str × D)) (ρ : En) : outI (.ok (.nx (.ow (.obj c fs) :: ρ))) = .ok (.obj c fs) := id rfl
@[simp] theorem wipeE_nil (ρ : En) : wipeE ρ [] = ρ := id rfl
@[simp] theorem wipeE_cons (ρ : En) (v : Nat) (vs : List Nat) : wipeE ρ (v :: vs) = (wipeE ρ vs).set v .no := id rfl
@[simp] theorem allD_lst (bs : List Bool) : allD (.lst (bs.map .bl)) = .ok (.bl (bs.all id)) := by
  have h : ∀ bs : List Bool, allBl (bs.map .bl) = some bs := fun bs => by
    induction bs with
    | nil => rfl
    | cons b bs ih => simp [allBl, ih]
  unfold allD
  simp only [h]
@[simp] theorem anyD_lst (bs : List Bool) : anyD (.lst (bs.map .bl)) = .ok (.bl (bs.any id)) := by
  have h : ∀ bs : List Bool, allBl (bs.map .bl) = some bs := fun bs => by
    induction bs with
    | nil => rfl
    | cons b bs ih => simp [allBl, ih]
  unfold anyD
  simp only [h]
theorem sortedID_ints (is : List Int) : sortedID (.lst (is.map .int)) = .ok (.lst ((isort is).map .int)) := by
  have h : ∀ bs : List Int, allInt (bs.map .int) = some bs := fun bs => by
    induction bs with
    | nil => rfl
    | cons b bs ih => simp [allInt, ih]
  unfold sortedID
  simp only [h]
theorem mem_isort {x : Int} {l : List Int} : x ∈ isort l ↔ x ∈ l := (isort_perm l).mem_iff
/-! ### texts -/
theorem len_append (a b : Str) : (a ++ b).length = a.length + b.length := by
  show (a.cps ++ b.cps).size = a.cps.size + b.cps.size
  exact Array.size_append
theorem strOk_append {a b : Str} (ha : strOk a = true) (hb : strOk b = true) : strOk (a ++ b) = true := by
  unfold strOk at *
  show (a.cps ++ b.cps).all (· < 0x110000) = true
  rw [Array.all_append, ha, hb]; rfl
theorem strOk_cut {a : Str} (lo hi : Option Int) (ha : strOk a = true) : strOk (cutS a lo hi) = true := by
  unfold strOk at *
  unfold cutS
  rw [← Array.all_toList] at ha ⊢
  rw [List.all_eq_true] at ha ⊢
  intro x hx
  simp only at hx
  exact ha x (List.mem_of_mem_drop (List.mem_of_mem_take hx))
theorem len_cut (a : Str) (lo hi : Option Int) : (cutS a lo hi).length ≤ a.length := by
  unfold cutS
  show (List.toArray _).size ≤ a.cps.size
  simp only [List.size_toArray, List.length_take, List.length_drop, Array.length_toList]
  omega
theorem strOk_one {c : Nat} (h : c < 0x110000) : strOk ⟨#[c]⟩ = true := by
  unfold strOk
  simp [h]
theorem ixD_str {z : Str} {i : Int} (hz : z.length ≤ 1000000) (h0 : 0 ≤ i) (h1 : i < z.length) : ∃ c, ixD (.str z) (.int i) = .ok (.str ⟨#[c]⟩) ∧ (strOk z = true → strOk ⟨#[c]⟩ = true) := by
  have hi : i.toNat < z.cps.size := by
    have h1 : i < (z.cps.size : Nat) := h1
    omega
  refine ⟨z.cps[i.toNat], ?_, fun h => ?_⟩
  · unfold ixD
    simp only
    have e : atI z.cps.toList i = some z.cps[i.toNat] := by
      have e : i = (i.toNat : Int) := by omega
      have := atI_nat (xs := z.cps.toList) (j := i.toNat) (v := z.cps[i.toNat]) (by simp [hi])
      rw [← e] at this
      exact this
    rw [decide_eq_true (by rw [sizeLine_val]; omega), e]
    rfl
  · apply strOk_one
    unfold strOk at h
    rw [Array.all_eq_true] at h
    simpa using h i.toNat hi
theorem addD_strs {a b : Str} (h : a.length + b.length ≤ 1000000) : addD (.str a) (.str b) = .ok (.str (a ++ b)) := by
  rw [addD_str, decide_eq_true (by rw [sizeLine_val]; omega)]; rfl
theorem addD_lsts {a b : List D} (h : a.length + b.length ≤ 1000000) : addD (.lst a) (.lst b) = .ok (.lst (a ++ b)) := by
  rw [addD_lst, decide_eq_true (by rw [sizeLine_val]; omega)]; rfl
theorem slD_strs {a : Str} {lo hi : Option Int} (h : a.length ≤ 1000000) : slD (.str a) lo hi = .ok (.str (cutS a lo hi)) := by
  rw [slD_str, decide_eq_true (by rw [sizeLine_val]; omega)]; rfl
end Fx

set_option Elab.async false
set_option linter.all false
set_option maxRecDepth 100000
set_option maxHeartbeats 4000000
namespace Lw
open PySem PySem.Spec PyProof.Rows L2 Fx
def topS (i : Nat) : Stmt := PySem.Challenge.pw_caseslive_k02_whole_verdicts_hold.main.body.getD i (.Pass ⟨0, 0, 0, 0⟩)
abbrev s_Rule___init__ : Stmt := inClass (topS 1) 0
abbrev N_Rule___init__ : List Str := ["self", "accepting", "moves", "row"]
theorem sc_Rule___init__ : FnScope N_Rule___init__ ["self", "accepting", "moves"] (defScope s_Rule___init__) := ⟨rfl, rfl, rfl, by decide +kernel, rfl, by decide +kernel, by decide +kernel⟩
abbrev s_state_after : Stmt := topS 2
abbrev N_state_after : List Str := ["rule", "names", "trace", "state", "activity"]
theorem sc_state_after : FnScope N_state_after ["rule", "names", "trace"] (defScope s_state_after) := ⟨rfl, rfl, rfl, by decide +kernel, rfl, by decide +kernel, by decide +kernel⟩
abbrev s_accepts : Stmt := topS 3
abbrev N_accepts : List Str := ["rule", "names", "trace"]
theorem sc_accepts : FnScope N_accepts ["rule", "names", "trace"] (defScope s_accepts) := ⟨rfl, rfl, rfl, by decide +kernel, rfl, by decide +kernel, by decide +kernel⟩
abbrev s_states_from : Stmt := topS 4
abbrev N_states_from : List Str := ["rule", "state", "found", "at", "following"]
theorem sc_states_from : FnScope N_states_from ["rule", "state"] (defScope s_states_from) := ⟨rfl, rfl, rfl, by decide +kernel, rfl, by decide +kernel, by decide +kernel⟩
abbrev s_verdict : Stmt := topS 5
abbrev N_verdict : List Str := ["rule", "names", "trace", "state", "values", "reached"]
theorem sc_verdict : FnScope N_verdict ["rule", "names", "trace"] (defScope s_verdict) := ⟨rfl, rfl, rfl, by decide +kernel, rfl, by decide +kernel, by decide +kernel⟩
abbrev s__law_cell : Stmt := topS 7
abbrev N__law_cell : List Str := ["_law_script", "_law_k"]
theorem sc__law_cell : FnScope N__law_cell ["_law_script", "_law_k"] (defScope s__law_cell) := ⟨rfl, rfl, rfl, by decide +kernel, rfl, by decide +kernel, by decide +kernel⟩
abbrev s__law_row : Stmt := topS 8
abbrev N__law_row : List Str := ["_law_cell_here", "_law_count", "_law_row_here", "_law_rest", "_law_seed", "_law_k"]
theorem sc__law_row : FnScope N__law_row ["_law_cell_here", "_law_count"] (defScope s__law_row) := ⟨rfl, rfl, rfl, by decide +kernel, rfl, by decide +kernel, by decide +kernel⟩
abbrev s__law_word : Stmt := topS 9
abbrev N__law_word : List Str := ["_law_number", "_law_letters", "_law_word_here"]
theorem sc__law_word : FnScope N__law_word ["_law_number"] (defScope s__law_word) := ⟨rfl, rfl, rfl, by decide +kernel, rfl, by decide +kernel, by decide +kernel⟩
abbrev s__law_names : Stmt := topS 10
abbrev N__law_names : List Str := ["_law_cell_here", "_law_row_here", "_law_names_here", "_law_k", "_law_word_here"]
theorem sc__law_names : FnScope N__law_names ["_law_cell_here"] (defScope s__law_names) := ⟨rfl, rfl, rfl, by decide +kernel, rfl, by decide +kernel, by decide +kernel⟩
abbrev s__law_rule : Stmt := topS 11
abbrev N__law_rule : List Str := ["_law_row_here", "_law_count", "_law_size", "_law_accepting", "_law_moves", "_law_k", "_law_at"]
theorem sc__law_rule : FnScope N__law_rule ["_law_row_here", "_law_count"] (defScope s__law_rule) := ⟨rfl, rfl, rfl, by decide +kernel, rfl, by decide +kernel, by decide +kernel⟩
abbrev s__law_rules : Stmt := topS 12
abbrev N__law_rules : List Str := ["_law_cell_here", "_law_count", "_law_row_here", "_law_k"]
theorem sc__law_rules : FnScope N__law_rules ["_law_cell_here", "_law_count"] (defScope s__law_rules) := ⟨rfl, rfl, rfl, by decide +kernel, rfl, by decide +kernel, by decide +kernel⟩
abbrev s__law_state : Stmt := topS 13
abbrev N__law_state : List Str := ["_law_rule_here", "_law_names_here", "_law_trace_here", "_law_state_here", "_law_activity", "_law_k"]
theorem sc__law_state : FnScope N__law_state ["_law_rule_here", "_law_names_here", "_law_trace_here"] (defScope s__law_state) := ⟨rfl, rfl, rfl, by decide +kernel, rfl, by decide +kernel, by decide +kernel⟩
abbrev s__law_trace : Stmt := topS 14
abbrev N__law_trace : List Str := ["_law_names_here", "_law_cell_here", "_law_size", "_law_number"]
theorem sc__law_trace : FnScope N__law_trace ["_law_names_here", "_law_cell_here", "_law_size"] (defScope s__law_trace) := ⟨rfl, rfl, rfl, by decide +kernel, rfl, by decide +kernel, by decide +kernel⟩
abbrev s__law_traces : Stmt := topS 15
abbrev N__law_traces : List Str := ["_law_names_here", "_law_cell_here", "_law_count", "_law_size", "_law_row_here", "_law_traces_here", "_law_at", "_law_k", "_law_length", "_law_number"]
theorem sc__law_traces : FnScope N__law_traces ["_law_names_here", "_law_cell_here", "_law_count", "_law_size"] (defScope s__law_traces) := ⟨rfl, rfl, rfl, by decide +kernel, rfl, by decide +kernel, by decide +kernel⟩
abbrev s__law_all : Stmt := topS 16
abbrev N__law_all : List Str := ["_law_names_here", "_law_size", "_law_rows", "_law_found", "_law_k", "_law_longer", "_law_row_here", "_law_name"]
theorem sc__law_all : FnScope N__law_all ["_law_names_here", "_law_size"] (defScope s__law_all) := ⟨rfl, rfl, rfl, by decide +kernel, rfl, by decide +kernel, by decide +kernel⟩
abbrev s__law_holds : Stmt := topS 17
abbrev N__law_holds : List Str := ["_law_made", "_law_names_here", "_law_trace_here", "_law_told", "_law_more", "_law_said"]
theorem sc__law_holds : FnScope N__law_holds ["_law_made", "_law_names_here", "_law_trace_here", "_law_told", "_law_more"] (defScope s__law_holds) := ⟨rfl, rfl, rfl, by decide +kernel, rfl, by decide +kernel, by decide +kernel⟩
abbrev s__law_differs : Stmt := topS 18
abbrev N__law_differs : List Str := ["_law_made", "_law_names_here", "_law_trace_here", "_law_told", "_law_values", "_law_more"]
theorem sc__law_differs : FnScope N__law_differs ["_law_made", "_law_names_here", "_law_trace_here", "_law_told"] (defScope s__law_differs) := ⟨rfl, rfl, rfl, by decide +kernel, rfl, by decide +kernel, by decide +kernel⟩
abbrev s_law : Stmt := topS 19
abbrev N_law : List Str := ["_law_script", "_law_names_here", "_law_trace_here", "_law_rule_here", "_law_made", "_law_other", "_law_told", "_law_cell_here", "_law_moves"]
theorem sc_law : FnScope N_law ["_law_script"] (defScope s_law) := ⟨rfl, rfl, rfl, by decide +kernel, rfl, by decide +kernel, by decide +kernel⟩
structure Facts (K : PySem.W.Frag) (mg : Str → Option Value) : Prop where
  m_all : mg "all" = none
  m_any : mg "any" = none
  m_int : mg "int" = none
  m_len : mg "len" = none
  m_list : mg "list" = none
  m_range : mg "range" = none
  m_tuple : mg "tuple" = none
  a_accepting : ∀ c ∈ [("Rule" : Str)], ClsA K mg "accepting" c
  a_moves : ∀ c ∈ [("Rule" : Str)], ClsA K mg "moves" c
  s_Rule_accepting : ∀ c ∈ [("Rule" : Str)], ClsA K mg "accepting" c
  s_Rule_moves : ∀ c ∈ [("Rule" : Str)], ClsA K mg "moves" c
  f_Rule___init__ : ∃ C f fd, Mk K C f ∧ Fun K "__init__" "Rule.__init__" s_Rule___init__ f fd ∧ mg "Rule" = some (.ref C)
  f_state_after : ∃ f fd, Fun K "state_after" "state_after" s_state_after f fd ∧ mg "state_after" = some (.ref f)
  f_accepts : ∃ f fd, Fun K "accepts" "accepts" s_accepts f fd ∧ mg "accepts" = some (.ref f)
  f_states_from : ∃ f fd, Fun K "states_from" "states_from" s_states_from f fd ∧ mg "states_from" = some (.ref f)
  f_verdict : ∃ f fd, Fun K "verdict" "verdict" s_verdict f fd ∧ mg "verdict" = some (.ref f)
  f__law_cell : ∃ f fd, Fun K "_law_cell" "_law_cell" s__law_cell f fd ∧ mg "_law_cell" = some (.ref f)
  f__law_row : ∃ f fd, Fun K "_law_row" "_law_row" s__law_row f fd ∧ mg "_law_row" = some (.ref f)
  f__law_word : ∃ f fd, Fun K "_law_word" "_law_word" s__law_word f fd ∧ mg "_law_word" = some (.ref f)
  f__law_names : ∃ f fd, Fun K "_law_names" "_law_names" s__law_names f fd ∧ mg "_law_names" = some (.ref f)
  f__law_rule : ∃ f fd, Fun K "_law_rule" "_law_rule" s__law_rule f fd ∧ mg "_law_rule" = some (.ref f)
  f__law_rules : ∃ f fd, Fun K "_law_rules" "_law_rules" s__law_rules f fd ∧ mg "_law_rules" = some (.ref f)
  f__law_state : ∃ f fd, Fun K "_law_state" "_law_state" s__law_state f fd ∧ mg "_law_state" = some (.ref f)
  f__law_trace : ∃ f fd, Fun K "_law_trace" "_law_trace" s__law_trace f fd ∧ mg "_law_trace" = some (.ref f)
  f__law_traces : ∃ f fd, Fun K "_law_traces" "_law_traces" s__law_traces f fd ∧ mg "_law_traces" = some (.ref f)
  f__law_all : ∃ f fd, Fun K "_law_all" "_law_all" s__law_all f fd ∧ mg "_law_all" = some (.ref f)
  f__law_holds : ∃ f fd, Fun K "_law_holds" "_law_holds" s__law_holds f fd ∧ mg "_law_holds" = some (.ref f)
  f__law_differs : ∃ f fd, Fun K "_law_differs" "_law_differs" s__law_differs f fd ∧ mg "_law_differs" = some (.ref f)
  f_law : ∃ f fd, Fun K "law" "law" s_law f fd ∧ mg "law" = some (.ref f)
section
variable {P : Program} {w : World} {K : PySem.W.Frag} {mg : Str → Option Value} {base : Heap}
noncomputable def g_Rule___init__ : En → Oc Res :=
  (sq (setF 0 [("Rule" : Str)] "accepting" (un tupleD (vo 1)))
  (setF 0 [("Rule" : Str)] "moves" (un tupleD (lc (.one 3) [3] (itm (vr 2)) yes (un tupleD (vo 3))))))
noncomputable def F_Rule___init__ : List D → Oc D := fnI "Rule" 3 2 g_Rule___init__
theorem K_Rule___init__ (T : Facts K mg) : KnC P w K mg base 1 "Rule" 2 [] F_Rule___init__ := by
  obtain ⟨Cl, f, fd, mk, F, gm⟩ := T.f_Rule___init__
  refine ⟨Cl, f, fd, ["self", "accepting", "moves"], [], [], mk, init_ok (N := N_Rule___init__) (k := 0) F sc_Rule___init__ rfl (fun cdv A outer s H E hr C => ?_), gm, (F.binds fun _ _ _ _ _ _ us hl => match us, hl with | [_, _, _], _ => rfl), .nil, fun _ => .nil⟩
  have hp := po_def (P := P) (w := w) (K := K) (mg := mg) (base := base) (N := N_Rule___init__) (qual := "Rule.__init__") (sc := defScope s_Rule___init__) (f := f) (cdv := cdv) (A := A) (outer := outer) (s := s) (H := H) (E := E)
  exact (ss_cons (ss_setF (cs := [("Rule" : Str)]) (T.s_Rule_accepting) (pv 0) (se_tuple (by rfl) T.m_tuple (sq_var (pv 1))))
  (ss_one (ss_setF (cs := [("Rule" : Str)]) (T.s_Rule_moves) (pv 0) (se_tuple (by rfl) T.m_tuple (SE.toQ (SF.toE (sf_lc C (si_seq (se_var (pv 2))) (blkOk_by (own := [("row", 3)]) (N := N_Rule___init__) (sc := defScope s_Rule___init__) (by decide +kernel)) (fun _ _ _ _ _ => (st_one (Ctx.blk C _ _ _ _ _).nd rfl (by first | exact Or.inl rfl | exact Or.inr rfl))) (fun _ _ _ _ _ => sts_nil) (fun _ _ _ _ _ => (se_tuple (by rfl) T.m_tuple (sq_var (pv 3)))) (by decide))))))))
noncomputable def g_state_after : En → Oc Res :=
  (sq (asg 3 (cst (.int 0)))
  (sq (fr (.one 4) (itm (vr 2)) (asg 3 (bi ixD (bi ixD (un (fldD [("Rule" : Str)] "moves") (vo 0)) (vo 3)) (mtD isLst indexM (un listD (vo 1)) (aC (vr 4) aN)))))
  (ret (vr 3))))
noncomputable def F_state_after : List D → Oc D := fnB 5 3 g_state_after
theorem K_state_after (T : Facts K mg) : Kn P w K mg base 1 "state_after" 3 [] F_state_after := by
  obtain ⟨f, fd, F, gm⟩ := T.f_state_after
  refine ⟨f, fd, ["rule", "names", "trace"], [], [], fn_ok (N := N_state_after) (k := 0) F sc_state_after (fun cdv A outer s H E hr C => ?_), gm, F.kp, (F.binds fun _ _ _ _ _ _ us hl => match us, hl with | [_, _, _], _ => rfl), .nil, fun _ => .nil⟩
  have hp := po_def (P := P) (w := w) (K := K) (mg := mg) (base := base) (N := N_state_after) (qual := "state_after") (sc := defScope s_state_after) (f := f) (cdv := cdv) (A := A) (outer := outer) (s := s) (H := H) (E := E)
  exact (ss_cons (ss_set (i := 3) C rfl (by first | exact Or.inl rfl | exact Or.inr rfl) se_int)
  (ss_cons (ss_for C hp (si_seq (se_var (pv 2))) (st_one C.nd rfl (by first | exact Or.inl rfl | exact Or.inr rfl)) (ss_one (ss_set (i := 3) C rfl (by first | exact Or.inl rfl | exact Or.inr rfl) (se_ix (SE.toQ (se_ix (SE.toQ (se_fld (cs := [("Rule" : Str)]) (T.a_moves) (sq_var (pv 0)))) (sq_var (pv 3)) (fun _ _ => rfl))) (SE.toQ (se_index C.units (SE.toQ (SF.toE (sf_list (by rfl) T.m_list (sq_var (pv 1))))) (sa_cons (se_var (pv 4)) sa_nil))) (fun _ _ => rfl)))))
  (ss_one (ss_ret (se_var (pv 3))))))
noncomputable def g_accepts : En → Oc Res :=
  (ret (bi ixD (un (fldD [("Rule" : Str)] "accepting") (vo 0)) (cal F_state_after 3 [] (aC (vr 0) (aC (vr 1) (aC (vr 2) aN))))))
noncomputable def F_accepts : List D → Oc D := fnB 3 3 g_accepts
theorem K_accepts (T : Facts K mg) : Kn P w K mg base 2 "accepts" 3 [] F_accepts := by
  obtain ⟨f, fd, F, gm⟩ := T.f_accepts
  have K_state_after := K_state_after (P := P) (w := w) (base := base) T
  refine ⟨f, fd, ["rule", "names", "trace"], [], [], fn_ok (N := N_accepts) (k := 1) F sc_accepts (fun cdv A outer s H E hr C => ?_), gm, F.kp, (F.binds fun _ _ _ _ _ _ us hl => match us, hl with | [_, _, _], _ => rfl), .nil, fun _ => .nil⟩
  have hp := po_def (P := P) (w := w) (K := K) (mg := mg) (base := base) (N := N_accepts) (qual := "accepts") (sc := defScope s_accepts) (f := f) (cdv := cdv) (A := A) (outer := outer) (s := s) (H := H) (E := E)
  exact (ss_one (ss_ret (se_ix (SE.toQ (se_fld (cs := [("Rule" : Str)]) (T.a_accepting) (sq_var (pv 0)))) (SE.toQ (se_call K_state_after C (hr.mono (by decide)) (by rfl) (sa_cons (se_var (pv 0)) (sa_cons (se_var (pv 1)) (sa_cons (se_var (pv 2)) sa_nil))))) (fun _ _ => rfl))))
noncomputable def g_states_from : En → Oc Res :=
  (sq (asgO 2 (lsd (aC (vr 1) aN)))
  (sq (asg 3 (cst (.int 0)))
  (sq (wh (tst (bi (cmpD fun i j => decide (i < j)) (vo 3) (un lenD (vo 2)))) (sq (fr (.one 4) (itm (bi ixD (un (fldD [("Rule" : Str)] "moves") (vo 0)) (bi ixD (vo 2) (vo 3)))) (iff (tst (bi ninD (vo 4) (vo 2))) (app 2 (vr 4)) sNx))
  (augA 3 (cst (.int 1)))))
  (frz 2 (ret (vr 2))))))
noncomputable def F_states_from : List D → Oc D := fnB 5 2 g_states_from
theorem K_states_from (T : Facts K mg) : Kn P w K mg base 1 "states_from" 2 [] F_states_from := by
  obtain ⟨f, fd, F, gm⟩ := T.f_states_from
  refine ⟨f, fd, ["rule", "state"], [], [], fn_ok (N := N_states_from) (k := 0) F sc_states_from (fun cdv A outer s H E hr C => ?_), gm, F.kp, (F.binds fun _ _ _ _ _ _ us hl => match us, hl with | [_, _], _ => rfl), .nil, fun _ => .nil⟩
  have hp := po_def (P := P) (w := w) (K := K) (mg := mg) (base := base) (N := N_states_from) (qual := "states_from") (sc := defScope s_states_from) (f := f) (cdv := cdv) (A := A) (outer := outer) (s := s) (H := H) (E := E)
  exact (ss_cons (ss_setO (i := 2) C rfl (by first | exact Or.inl rfl | exact Or.inr rfl) (sf_lst (sa_cons (se_var (pv 1)) sa_nil)))
  (ss_cons (ss_set (i := 3) C rfl (by first | exact Or.inl rfl | exact Or.inr rfl) se_int)
  (ss_cons (ss_while C hp (st_lt (sq_var (pv 3)) (SE.toQ (se_len (by rfl) T.m_len (sq_var (pv 2))))) (ss_cons (ss_for C hp (si_seq (se_ix (SE.toQ (se_fld (cs := [("Rule" : Str)]) (T.a_moves) (sq_var (pv 0)))) (SE.toQ (se_ix (sq_var (pv 2)) (sq_var (pv 3)) (fun _ _ => rfl))) (fun _ _ => rfl))) (st_one C.nd rfl (by first | exact Or.inl rfl | exact Or.inr rfl)) (ss_one (ss_if (st_nin (sq_var (pv 4)) (sq_var (pv 2)) C.units) (ss_one (ss_app (pv 2) (se_var (pv 4)))) ss_nil)))
  (ss_one (ss_augA (i := 3) C rfl (by first | exact Or.inl rfl | exact Or.inr rfl) se_int))))
  (ss_one (ss_frz 2 (ss_ret (se_var (pv 2))))))))
noncomputable def g_verdict : En → Oc Res :=
  (sq (asg 3 (cal F_state_after 3 [] (aC (vr 0) (aC (vr 1) (aC (vr 2) aN)))))
  (sq (asg 4 (lc (.one 5) [5] (itm (cal F_states_from 2 [] (aC (vr 0) (aC (vr 3) aN)))) yes (bi ixD (un (fldD [("Rule" : Str)] "accepting") (vo 0)) (vo 5))))
  (sq (iff (tst (un allD (vo 4))) (ret (cst (.str "always"))) sNx)
  (sq (iff (nt (tst (un anyD (vo 4)))) (ret (cst (.str "never"))) sNx)
  (sq (iff (tst (bi ixD (un (fldD [("Rule" : Str)] "accepting") (vo 0)) (vo 3))) (ret (cst (.str "yes"))) sNx)
  (ret (cst (.str "no"))))))))
noncomputable def F_verdict : List D → Oc D := fnB 6 3 g_verdict
theorem K_verdict (T : Facts K mg) : Kn P w K mg base 2 "verdict" 3 [] F_verdict := by
  obtain ⟨f, fd, F, gm⟩ := T.f_verdict
  have K_state_after := K_state_after (P := P) (w := w) (base := base) T
  have K_states_from := K_states_from (P := P) (w := w) (base := base) T
  refine ⟨f, fd, ["rule", "names", "trace"], [], [], fn_ok (N := N_verdict) (k := 1) F sc_verdict (fun cdv A outer s H E hr C => ?_), gm, F.kp, (F.binds fun _ _ _ _ _ _ us hl => match us, hl with | [_, _, _], _ => rfl), .nil, fun _ => .nil⟩
  have hp := po_def (P := P) (w := w) (K := K) (mg := mg) (base := base) (N := N_verdict) (qual := "verdict") (sc := defScope s_verdict) (f := f) (cdv := cdv) (A := A) (outer := outer) (s := s) (H := H) (E := E)
  exact (ss_cons (ss_set (i := 3) C rfl (by first | exact Or.inl rfl | exact Or.inr rfl) (se_call K_state_after C (hr.mono (by decide)) (by rfl) (sa_cons (se_var (pv 0)) (sa_cons (se_var (pv 1)) (sa_cons (se_var (pv 2)) sa_nil)))))
  (ss_cons (ss_setLc (i := 4) C rfl rfl (sw_true rfl rfl rfl (by decide +kernel)) (si_seq (se_call K_states_from C (hr.mono (by decide)) (by rfl) (sa_cons (se_var (pv 0)) (sa_cons (se_var (pv 3)) sa_nil)))) (blkOk_by (own := [("reached", 5)]) (N := N_verdict) (sc := defScope s_verdict) (by decide +kernel)) (fun _ _ _ _ _ => (st_one (Ctx.blk C _ _ _ _ _).nd rfl (by first | exact Or.inl rfl | exact Or.inr rfl))) (fun _ _ _ _ _ => sts_nil) (fun _ _ _ _ _ => (se_ix (SE.toQ (se_fld (cs := [("Rule" : Str)]) (T.a_accepting) (sq_var (pv 0)))) (sq_var (pv 5)) (fun _ _ => rfl))) (by decide))
  (ss_cons (ss_if (st_val (se_all C.calm (by rfl) T.m_all (sq_var (pv 4)))) (ss_one (ss_ret se_str)) ss_nil)
  (ss_cons (ss_if (st_not (st_val (se_any C.calm (by rfl) T.m_any (sq_var (pv 4))))) (ss_one (ss_ret se_str)) ss_nil)
  (ss_cons (ss_if (st_val (se_ix (SE.toQ (se_fld (cs := [("Rule" : Str)]) (T.a_accepting) (sq_var (pv 0)))) (sq_var (pv 3)) (fun _ _ => rfl))) (ss_one (ss_ret se_str)) ss_nil)
  (ss_one (ss_ret se_str)))))))
noncomputable def g__law_cell : En → Oc Res :=
  (sq (iff (tst (bi (cmpD fun i j => decide (i < j)) (vo 1) (un lenD (vo 0)))) (ret (bi ixD (vo 0) (vo 1))) sNx)
  (ret (cst (.int 0))))
noncomputable def F__law_cell : List D → Oc D := fnB 2 2 g__law_cell
theorem K__law_cell (T : Facts K mg) : Kn P w K mg base 1 "_law_cell" 2 [] F__law_cell := by
  obtain ⟨f, fd, F, gm⟩ := T.f__law_cell
  refine ⟨f, fd, ["_law_script", "_law_k"], [], [], fn_ok (N := N__law_cell) (k := 0) F sc__law_cell (fun cdv A outer s H E hr C => ?_), gm, F.kp, (F.binds fun _ _ _ _ _ _ us hl => match us, hl with | [_, _], _ => rfl), .nil, fun _ => .nil⟩
  have hp := po_def (P := P) (w := w) (K := K) (mg := mg) (base := base) (N := N__law_cell) (qual := "_law_cell") (sc := defScope s__law_cell) (f := f) (cdv := cdv) (A := A) (outer := outer) (s := s) (H := H) (E := E)
  exact (ss_cons (ss_if (st_lt (sq_var (pv 1)) (SE.toQ (se_len (by rfl) T.m_len (sq_var (pv 0))))) (ss_one (ss_ret (se_ix (sq_var (pv 0)) (sq_var (pv 1)) (fun _ _ => rfl)))) ss_nil)
  (ss_one (ss_ret se_int)))
noncomputable def g__law_row : En → Oc Res :=
  (sq (asgO 2 (lsd aN))
  (sq (asg 3 (vr 0))
  (sq (asg 4 (bi addD (bi modD (un intD (vo 0)) (cst (.int 2147483629))) (cst (.int 1))))
  (sq (fr (.one 5) (rng1 (aC (vr 1) aN)) (iff (tst (bi (cmpD fun i j => decide (j ≤ i)) (vo 0) (bi powD (cst (.int 10)) (cst (.int 18))))) (sq (app 2 (bi modD (un intD (vo 3)) (cst (.int 840))))
  (asg 3 (bi fdivD (vo 3) (cst (.int 840))))) (sq (asg 4 (bi modD (un intD (bi addD (bi mulD (vo 4) (cst (.int 48271))) (vo 5))) (cst (.int 2147483647))))
  (app 2 (bi modD (bi fdivD (bi modD (un intD (bi mulD (vo 4) (cst (.int 69621)))) (cst (.int 2147483629))) (cst (.int 7))) (cst (.int 840)))))))
  (frz 2 (ret (vr 2)))))))
noncomputable def F__law_row : List D → Oc D := fnB 6 2 g__law_row
theorem K__law_row (T : Facts K mg) : Kn P w K mg base 1 "_law_row" 2 [] F__law_row := by
  obtain ⟨f, fd, F, gm⟩ := T.f__law_row
  refine ⟨f, fd, ["_law_cell_here", "_law_count"], [], [], fn_ok (N := N__law_row) (k := 0) F sc__law_row (fun cdv A outer s H E hr C => ?_), gm, F.kp, (F.binds fun _ _ _ _ _ _ us hl => match us, hl with | [_, _], _ => rfl), .nil, fun _ => .nil⟩
  have hp := po_def (P := P) (w := w) (K := K) (mg := mg) (base := base) (N := N__law_row) (qual := "_law_row") (sc := defScope s__law_row) (f := f) (cdv := cdv) (A := A) (outer := outer) (s := s) (H := H) (E := E)
  exact (ss_cons (ss_setO (i := 2) C rfl (by first | exact Or.inl rfl | exact Or.inr rfl) (sf_lst sa_nil))
  (ss_cons (ss_set (i := 3) C rfl (by first | exact Or.inl rfl | exact Or.inr rfl) (se_var (pv 0)))
  (ss_cons (ss_set (i := 4) C rfl (by first | exact Or.inl rfl | exact Or.inr rfl) (se_add (SE.toQ (se_mod (SE.toQ (se_int1 (by rfl) T.m_int (sq_var (pv 0)))) (SE.toQ se_int))) (SE.toQ se_int)))
  (ss_cons (ss_for C hp (si_rng1 (by rfl) T.m_range (sa_cons (se_var (pv 1)) sa_nil)) (st_one C.nd rfl (by first | exact Or.inl rfl | exact Or.inr rfl)) (ss_one (ss_if (st_ge (sq_var (pv 0)) (SE.toQ (se_pow (SE.toQ se_int) (SE.toQ se_int)))) (ss_cons (ss_app (pv 2) (se_mod (SE.toQ (se_int1 (by rfl) T.m_int (sq_var (pv 3)))) (SE.toQ se_int)))
  (ss_one (ss_set (i := 3) C rfl (by first | exact Or.inl rfl | exact Or.inr rfl) (se_fdiv (sq_var (pv 3)) (SE.toQ se_int))))) (ss_cons (ss_set (i := 4) C rfl (by first | exact Or.inl rfl | exact Or.inr rfl) (se_mod (SE.toQ (se_int1 (by rfl) T.m_int (SE.toQ (se_add (SE.toQ (se_mul (sq_var (pv 4)) (SE.toQ se_int))) (sq_var (pv 5)))))) (SE.toQ se_int)))
  (ss_one (ss_app (pv 2) (se_mod (SE.toQ (se_fdiv (SE.toQ (se_mod (SE.toQ (se_int1 (by rfl) T.m_int (SE.toQ (se_mul (sq_var (pv 4)) (SE.toQ se_int))))) (SE.toQ se_int))) (SE.toQ se_int))) (SE.toQ se_int))))))))
  (ss_one (ss_frz 2 (ss_ret (se_var (pv 2)))))))))
noncomputable def g__law_word : En → Oc Res :=
  (sq (asg 1 (cst (.str "abcdefghijklmnopqrstuvwxyz")))
  (sq (asg 2 (bi ixD (vo 1) (bi modD (vo 0) (cst (.int 26)))))
  (sq (iff (tst (bi (cmpD fun i j => decide (j < i)) (bi modD (bi fdivD (vo 0) (cst (.int 26))) (cst (.int 3))) (cst (.int 0)))) (asg 2 (bi addD (vo 2) (bi ixD (vo 1) (bi modD (bi fdivD (vo 0) (cst (.int 3))) (cst (.int 26)))))) sNx)
  (sq (iff (tst (bi eqD (bi modD (bi fdivD (vo 0) (cst (.int 26))) (cst (.int 3))) (cst (.int 2)))) (asg 2 (bi addD (bi addD (bi addD (vo 2) (bi ixD (vo 1) (bi modD (bi fdivD (vo 0) (cst (.int 5))) (cst (.int 26))))) (bi ixD (vo 1) (bi modD (bi fdivD (vo 0) (cst (.int 11))) (cst (.int 26))))) (bi ixD (vo 1) (bi modD (bi fdivD (vo 0) (cst (.int 2))) (cst (.int 26)))))) sNx)
  (ret (vr 2))))))
noncomputable def F__law_word : List D → Oc D := fnB 3 1 g__law_word
theorem K__law_word (T : Facts K mg) : Kn P w K mg base 1 "_law_word" 1 [] F__law_word := by
  obtain ⟨f, fd, F, gm⟩ := T.f__law_word
  refine ⟨f, fd, ["_law_number"], [], [], fn_ok (N := N__law_word) (k := 0) F sc__law_word (fun cdv A outer s H E hr C => ?_), gm, F.kp, (F.binds fun _ _ _ _ _ _ us hl => match us, hl with | [_], _ => rfl), .nil, fun _ => .nil⟩
  have hp := po_def (P := P) (w := w) (K := K) (mg := mg) (base := base) (N := N__law_word) (qual := "_law_word") (sc := defScope s__law_word) (f := f) (cdv := cdv) (A := A) (outer := outer) (s := s) (H := H) (E := E)
  exact (ss_cons (ss_set (i := 1) C rfl (by first | exact Or.inl rfl | exact Or.inr rfl) se_str)
  (ss_cons (ss_set (i := 2) C rfl (by first | exact Or.inl rfl | exact Or.inr rfl) (se_ix (sq_var (pv 1)) (SE.toQ (se_mod (sq_var (pv 0)) (SE.toQ se_int))) (fun _ _ => rfl)))
  (ss_cons (ss_if (st_gt (SE.toQ (se_mod (SE.toQ (se_fdiv (sq_var (pv 0)) (SE.toQ se_int))) (SE.toQ se_int))) (SE.toQ se_int)) (ss_one (ss_set (i := 2) C rfl (by first | exact Or.inl rfl | exact Or.inr rfl) (se_add (sq_var (pv 2)) (SE.toQ (se_ix (sq_var (pv 1)) (SE.toQ (se_mod (SE.toQ (se_fdiv (sq_var (pv 0)) (SE.toQ se_int))) (SE.toQ se_int))) (fun _ _ => rfl)))))) ss_nil)
  (ss_cons (ss_if (st_eq (SE.toQ (se_mod (SE.toQ (se_fdiv (sq_var (pv 0)) (SE.toQ se_int))) (SE.toQ se_int))) (SE.toQ se_int) C.units) (ss_one (ss_set (i := 2) C rfl (by first | exact Or.inl rfl | exact Or.inr rfl) (se_add (SE.toQ (se_add (SE.toQ (se_add (sq_var (pv 2)) (SE.toQ (se_ix (sq_var (pv 1)) (SE.toQ (se_mod (SE.toQ (se_fdiv (sq_var (pv 0)) (SE.toQ se_int))) (SE.toQ se_int))) (fun _ _ => rfl))))) (SE.toQ (se_ix (sq_var (pv 1)) (SE.toQ (se_mod (SE.toQ (se_fdiv (sq_var (pv 0)) (SE.toQ se_int))) (SE.toQ se_int))) (fun _ _ => rfl))))) (SE.toQ (se_ix (sq_var (pv 1)) (SE.toQ (se_mod (SE.toQ (se_fdiv (sq_var (pv 0)) (SE.toQ se_int))) (SE.toQ se_int))) (fun _ _ => rfl)))))) ss_nil)
  (ss_one (ss_ret (se_var (pv 2))))))))
noncomputable def g__law_names : En → Oc Res :=
  (sq (asg 1 (cal F__law_row 2 [] (aC (vr 0) (aC (cst (.int 6)) aN))))
  (sq (asgO 2 (lsd aN))
  (sq (fr (.one 3) (rng1 (aC (bi ixD (lsd (aC (cst (.int 1)) (aC (cst (.int 2)) (aC (cst (.int 2)) (aC (cst (.int 3)) (aC (cst (.int 3)) (aC (cst (.int 4)) (aC (cst (.int 2)) (aC (cst (.int 3)) (aC (cst (.int 5)) aN)))))))))) (bi modD (bi ixD (vo 1) (cst (.int 5))) (cst (.int 9)))) aN)) (sq (asg 4 (cal F__law_word 1 [] (aC (bi ixD (vo 1) (vo 3)) aN)))
  (sq (iff (tst (bi eqD (bi modD (bi fdivD (bi ixD (vo 1) (vo 3)) (cst (.int 50))) (cst (.int 6))) (cst (.int 5)))) (asg 4 (slc (bi addD (vo 4) (cst (.str "abcdefgh"))) none (some (bi addD (cst (.int 7)) (bi modD (bi ixD (vo 1) (vo 3)) (cst (.int 2))))))) sNx)
  (sq (iff (tst (bi inD (vo 4) (vo 2))) (asg 4 (slc (bi addD (vo 4) (cst (.str "q"))) (some (un negD (cst (.int 8)))) none)) sNx)
  (iff (tst (bi ninD (vo 4) (vo 2))) (app 2 (vr 4)) sNx)))))
  (frz 2 (ret (vr 2))))))
noncomputable def F__law_names : List D → Oc D := fnB 5 1 g__law_names
theorem K__law_names (T : Facts K mg) : Kn P w K mg base 2 "_law_names" 1 [] F__law_names := by
  obtain ⟨f, fd, F, gm⟩ := T.f__law_names
  have K__law_row := K__law_row (P := P) (w := w) (base := base) T
  have K__law_word := K__law_word (P := P) (w := w) (base := base) T
  refine ⟨f, fd, ["_law_cell_here"], [], [], fn_ok (N := N__law_names) (k := 1) F sc__law_names (fun cdv A outer s H E hr C => ?_), gm, F.kp, (F.binds fun _ _ _ _ _ _ us hl => match us, hl with | [_], _ => rfl), .nil, fun _ => .nil⟩
  have hp := po_def (P := P) (w := w) (K := K) (mg := mg) (base := base) (N := N__law_names) (qual := "_law_names") (sc := defScope s__law_names) (f := f) (cdv := cdv) (A := A) (outer := outer) (s := s) (H := H) (E := E)
  exact (ss_cons (ss_set (i := 1) C rfl (by first | exact Or.inl rfl | exact Or.inr rfl) (se_call K__law_row C (hr.mono (by decide)) (by rfl) (sa_cons (se_var (pv 0)) (sa_cons se_int sa_nil))))
  (ss_cons (ss_setO (i := 2) C rfl (by first | exact Or.inl rfl | exact Or.inr rfl) (sf_lst sa_nil))
  (ss_cons (ss_for C hp (si_rng1 (by rfl) T.m_range (sa_cons (se_ix (SE.toQ (SF.toE (sf_lst (sa_cons se_int (sa_cons se_int (sa_cons se_int (sa_cons se_int (sa_cons se_int (sa_cons se_int (sa_cons se_int (sa_cons se_int (sa_cons se_int sa_nil)))))))))))) (SE.toQ (se_mod (SE.toQ (se_ix (sq_var (pv 1)) (SE.toQ se_int) (fun _ _ => rfl))) (SE.toQ se_int))) (fun _ _ => rfl)) sa_nil)) (st_one C.nd rfl (by first | exact Or.inl rfl | exact Or.inr rfl)) (ss_cons (ss_set (i := 4) C rfl (by first | exact Or.inl rfl | exact Or.inr rfl) (se_call K__law_word C (hr.mono (by decide)) (by rfl) (sa_cons (se_ix (sq_var (pv 1)) (sq_var (pv 3)) (fun _ _ => rfl)) sa_nil)))
  (ss_cons (ss_if (st_eq (SE.toQ (se_mod (SE.toQ (se_fdiv (SE.toQ (se_ix (sq_var (pv 1)) (sq_var (pv 3)) (fun _ _ => rfl))) (SE.toQ se_int))) (SE.toQ se_int))) (SE.toQ se_int) C.units) (ss_one (ss_set (i := 4) C rfl (by first | exact Or.inl rfl | exact Or.inr rfl) (se_sl (SE.toQ (se_add (sq_var (pv 4)) (SE.toQ se_str))) so_none (so_some (se_add (SE.toQ se_int) (SE.toQ (se_mod (SE.toQ (se_ix (sq_var (pv 1)) (sq_var (pv 3)) (fun _ _ => rfl))) (SE.toQ se_int)))))))) ss_nil)
  (ss_cons (ss_if (st_in (sq_var (pv 4)) (sq_var (pv 2)) C.units) (ss_one (ss_set (i := 4) C rfl (by first | exact Or.inl rfl | exact Or.inr rfl) (se_sl (SE.toQ (se_add (sq_var (pv 4)) (SE.toQ se_str))) (so_some (se_neg (SE.toQ se_int))) so_none))) ss_nil)
  (ss_one (ss_if (st_nin (sq_var (pv 4)) (sq_var (pv 2)) C.units) (ss_one (ss_app (pv 2) (se_var (pv 4)))) ss_nil))))))
  (ss_one (ss_frz 2 (ss_ret (se_var (pv 2))))))))
noncomputable def g__law_rule : En → Oc Res :=
  (sq (asg 2 (bi addD (cst (.int 1)) (bi modD (bi ixD (vo 0) (cst (.int 0))) (cst (.int 4)))))
  (sq (asg 3 (lc (.one 5) [5] (rng1 (aC (vr 2) aN)) yes (bi eqD (bi modD (bi fdivD (bi fdivD (bi ixD (vo 0) (cst (.int 1))) (bi powD (cst (.int 2)) (cst (.int 3)))) (bi addD (cst (.int 1)) (bi mulD (cst (.int 2)) (vo 5)))) (cst (.int 2))) (cst (.int 0)))))
  (sq (asgO 4 (lsd aN))
  (sq (fr (.one 5) (rng1 (aC (vr 2) aN)) (app 4 (un tupleD (lc (.one 6) [6] (rng1 (aC (vr 1) aN)) yes (bi modD (bi fdivD (bi ixD (vo 0) (bi addD (cst (.int 2)) (bi modD (bi addD (bi mulD (vo 1) (vo 5)) (vo 6)) (cst (.int 12))))) (bi addD (cst (.int 1)) (vo 5))) (vo 2))))))
  (frz 4 (ret (lsd (aC (un tupleD (vo 3)) (aC (un tupleD (vo 4)) aN)))))))))
noncomputable def F__law_rule : List D → Oc D := fnB 7 2 g__law_rule
theorem K__law_rule (T : Facts K mg) : Kn P w K mg base 1 "_law_rule" 2 [] F__law_rule := by
  obtain ⟨f, fd, F, gm⟩ := T.f__law_rule
  refine ⟨f, fd, ["_law_row_here", "_law_count"], [], [], fn_ok (N := N__law_rule) (k := 0) F sc__law_rule (fun cdv A outer s H E hr C => ?_), gm, F.kp, (F.binds fun _ _ _ _ _ _ us hl => match us, hl with | [_, _], _ => rfl), .nil, fun _ => .nil⟩
  have hp := po_def (P := P) (w := w) (K := K) (mg := mg) (base := base) (N := N__law_rule) (qual := "_law_rule") (sc := defScope s__law_rule) (f := f) (cdv := cdv) (A := A) (outer := outer) (s := s) (H := H) (E := E)
  exact (ss_cons (ss_set (i := 2) C rfl (by first | exact Or.inl rfl | exact Or.inr rfl) (se_add (SE.toQ se_int) (SE.toQ (se_mod (SE.toQ (se_ix (sq_var (pv 0)) (SE.toQ se_int) (fun _ _ => rfl))) (SE.toQ se_int)))))
  (ss_cons (ss_setLc (i := 3) C rfl rfl (sw_true rfl rfl rfl (by decide +kernel)) (si_rng1 (by rfl) T.m_range (sa_cons (se_var (pv 2)) sa_nil)) (blkOk_by (own := [("_law_k", 5)]) (N := N__law_rule) (sc := defScope s__law_rule) (by decide +kernel)) (fun _ _ _ _ _ => (st_one (Ctx.blk C _ _ _ _ _).nd rfl (by first | exact Or.inl rfl | exact Or.inr rfl))) (fun _ _ _ _ _ => sts_nil) (fun _ _ _ _ _ => (se_eq (SE.toQ (se_mod (SE.toQ (se_fdiv (SE.toQ (se_fdiv (SE.toQ (se_ix (sq_var (pv 0)) (SE.toQ se_int) (fun _ _ => rfl))) (SE.toQ (se_pow (SE.toQ se_int) (SE.toQ se_int))))) (SE.toQ (se_add (SE.toQ se_int) (SE.toQ (se_mul (SE.toQ se_int) (sq_var (pv 5)))))))) (SE.toQ se_int))) (SE.toQ se_int) (Ctx.blk C _ _ _ _ _).units)) (by decide))
  (ss_cons (ss_setO (i := 4) C rfl (by first | exact Or.inl rfl | exact Or.inr rfl) (sf_lst sa_nil))
  (ss_cons (ss_for C hp (si_rng1 (by rfl) T.m_range (sa_cons (se_var (pv 2)) sa_nil)) (st_one C.nd rfl (by first | exact Or.inl rfl | exact Or.inr rfl)) (ss_one (ss_app (pv 4) (se_tuple (by rfl) T.m_tuple (SE.toQ (SF.toE (sf_lc C (si_rng1 (by rfl) T.m_range (sa_cons (se_var (pv 1)) sa_nil)) (blkOk_by (own := [("_law_at", 6)]) (N := N__law_rule) (sc := defScope s__law_rule) (by decide +kernel)) (fun _ _ _ _ _ => (st_one (Ctx.blk C _ _ _ _ _).nd rfl (by first | exact Or.inl rfl | exact Or.inr rfl))) (fun _ _ _ _ _ => sts_nil) (fun _ _ _ _ _ => (se_mod (SE.toQ (se_fdiv (SE.toQ (se_ix (sq_var (pv 0)) (SE.toQ (se_add (SE.toQ se_int) (SE.toQ (se_mod (SE.toQ (se_add (SE.toQ (se_mul (sq_var (pv 1)) (sq_var (pv 5)))) (sq_var (pv 6)))) (SE.toQ se_int))))) (fun _ _ => rfl))) (SE.toQ (se_add (SE.toQ se_int) (sq_var (pv 5)))))) (sq_var (pv 2)))) (by decide))))))))
  (ss_one (ss_frz 4 (ss_ret (SF.toE (sf_lst (sa_cons (se_tuple (by rfl) T.m_tuple (sq_var (pv 3))) (sa_cons (se_tuple (by rfl) T.m_tuple (sq_var (pv 4))) sa_nil)))))))))))
noncomputable def g__law_rules : En → Oc Res :=
  (sq (asg 2 (cal F__law_row 2 [] (aC (vr 0) (aC (cst (.int 43)) aN))))
  (ret (lc (.one 3) [3] (rng1 (aC (bi ixD (lsd (aC (cst (.int 0)) (aC (cst (.int 1)) (aC (cst (.int 1)) (aC (cst (.int 2)) (aC (cst (.int 2)) (aC (cst (.int 3)) aN))))))) (bi modD (bi ixD (vo 2) (cst (.int 0))) (cst (.int 6)))) aN)) yes (cal F__law_rule 2 [] (aC (slc (vo 2) (some (bi addD (cst (.int 1)) (bi mulD (cst (.int 14)) (vo 3)))) (some (bi addD (cst (.int 15)) (bi mulD (cst (.int 14)) (vo 3))))) (aC (vr 1) aN))))))
noncomputable def F__law_rules : List D → Oc D := fnB 4 2 g__law_rules
theorem K__law_rules (T : Facts K mg) : Kn P w K mg base 2 "_law_rules" 2 [] F__law_rules := by
  obtain ⟨f, fd, F, gm⟩ := T.f__law_rules
  have K__law_row := K__law_row (P := P) (w := w) (base := base) T
  have K__law_rule := K__law_rule (P := P) (w := w) (base := base) T
  refine ⟨f, fd, ["_law_cell_here", "_law_count"], [], [], fn_ok (N := N__law_rules) (k := 1) F sc__law_rules (fun cdv A outer s H E hr C => ?_), gm, F.kp, (F.binds fun _ _ _ _ _ _ us hl => match us, hl with | [_, _], _ => rfl), .nil, fun _ => .nil⟩
  have hp := po_def (P := P) (w := w) (K := K) (mg := mg) (base := base) (N := N__law_rules) (qual := "_law_rules") (sc := defScope s__law_rules) (f := f) (cdv := cdv) (A := A) (outer := outer) (s := s) (H := H) (E := E)
  exact (ss_cons (ss_set (i := 2) C rfl (by first | exact Or.inl rfl | exact Or.inr rfl) (se_call K__law_row C (hr.mono (by decide)) (by rfl) (sa_cons (se_var (pv 0)) (sa_cons se_int sa_nil))))
  (ss_one (ss_ret (SF.toE (sf_lc C (si_rng1 (by rfl) T.m_range (sa_cons (se_ix (SE.toQ (SF.toE (sf_lst (sa_cons se_int (sa_cons se_int (sa_cons se_int (sa_cons se_int (sa_cons se_int (sa_cons se_int sa_nil))))))))) (SE.toQ (se_mod (SE.toQ (se_ix (sq_var (pv 2)) (SE.toQ se_int) (fun _ _ => rfl))) (SE.toQ se_int))) (fun _ _ => rfl)) sa_nil)) (blkOk_by (own := [("_law_k", 3)]) (N := N__law_rules) (sc := defScope s__law_rules) (by decide +kernel)) (fun _ _ _ _ _ => (st_one (Ctx.blk C _ _ _ _ _).nd rfl (by first | exact Or.inl rfl | exact Or.inr rfl))) (fun _ _ _ _ _ => sts_nil) (fun _ _ _ _ _ => (se_call K__law_rule (Ctx.blk C _ _ _ _ _) (hr.mono (by decide)) (by rfl) (sa_cons (se_sl (sq_var (pv 2)) (so_some (se_add (SE.toQ se_int) (SE.toQ (se_mul (SE.toQ se_int) (sq_var (pv 3)))))) (so_some (se_add (SE.toQ se_int) (SE.toQ (se_mul (SE.toQ se_int) (sq_var (pv 3))))))) (sa_cons (se_var (pv 1)) sa_nil)))) (by decide))))))
noncomputable def g__law_state : En → Oc Res :=
  (sq (asg 3 (cst (.int 0)))
  (sq (fr (.one 4) (itm (vr 2)) (asg 3 (bi ixD (bi ixD (bi ixD (vo 0) (cst (.int 1))) (vo 3)) (bi ixD (lc (.one 5) [5] (rng1 (aC (un lenD (vo 1)) aN)) (tst (bi eqD (bi ixD (vo 1) (vo 5)) (vo 4))) (vr 5)) (cst (.int 0))))))
  (ret (vr 3))))
noncomputable def F__law_state : List D → Oc D := fnB 6 3 g__law_state
theorem K__law_state (T : Facts K mg) : Kn P w K mg base 1 "_law_state" 3 [] F__law_state := by
  obtain ⟨f, fd, F, gm⟩ := T.f__law_state
  refine ⟨f, fd, ["_law_rule_here", "_law_names_here", "_law_trace_here"], [], [], fn_ok (N := N__law_state) (k := 0) F sc__law_state (fun cdv A outer s H E hr C => ?_), gm, F.kp, (F.binds fun _ _ _ _ _ _ us hl => match us, hl with | [_, _, _], _ => rfl), .nil, fun _ => .nil⟩
  have hp := po_def (P := P) (w := w) (K := K) (mg := mg) (base := base) (N := N__law_state) (qual := "_law_state") (sc := defScope s__law_state) (f := f) (cdv := cdv) (A := A) (outer := outer) (s := s) (H := H) (E := E)
  exact (ss_cons (ss_set (i := 3) C rfl (by first | exact Or.inl rfl | exact Or.inr rfl) se_int)
  (ss_cons (ss_for C hp (si_seq (se_var (pv 2))) (st_one C.nd rfl (by first | exact Or.inl rfl | exact Or.inr rfl)) (ss_one (ss_set (i := 3) C rfl (by first | exact Or.inl rfl | exact Or.inr rfl) (se_ix (SE.toQ (se_ix (SE.toQ (se_ix (sq_var (pv 0)) (SE.toQ se_int) (fun _ _ => rfl))) (sq_var (pv 3)) (fun _ _ => rfl))) (SE.toQ (se_ix (SE.toQ (SF.toE (sf_lc C (si_rng1 (by rfl) T.m_range (sa_cons (se_len (by rfl) T.m_len (sq_var (pv 1))) sa_nil)) (blkOk_by (own := [("_law_k", 5)]) (N := N__law_state) (sc := defScope s__law_state) (by decide +kernel)) (fun _ _ _ _ _ => (st_one (Ctx.blk C _ _ _ _ _).nd rfl (by first | exact Or.inl rfl | exact Or.inr rfl))) (fun _ _ _ _ _ => (sts_one (st_eq (SE.toQ (se_ix (sq_var (pv 1)) (sq_var (pv 5)) (fun _ _ => rfl))) (sq_var (pv 4)) (Ctx.blk C _ _ _ _ _).units))) (fun _ _ _ _ _ => (se_var (pv 5))) (by decide)))) (SE.toQ se_int) (fun _ _ => rfl))) (fun _ _ => rfl)))))
  (ss_one (ss_ret (se_var (pv 3))))))
noncomputable def g__law_trace : En → Oc Res :=
  (ret (lc (.one 3) [3] (itm (cal F__law_row 2 [] (aC (vr 1) (aC (vr 2) aN)))) yes (bi ixD (vo 0) (bi modD (vo 3) (un lenD (vo 0))))))
noncomputable def F__law_trace : List D → Oc D := fnB 4 3 g__law_trace
theorem K__law_trace (T : Facts K mg) : Kn P w K mg base 2 "_law_trace" 3 [] F__law_trace := by
  obtain ⟨f, fd, F, gm⟩ := T.f__law_trace
  have K__law_row := K__law_row (P := P) (w := w) (base := base) T
  refine ⟨f, fd, ["_law_names_here", "_law_cell_here", "_law_size"], [], [], fn_ok (N := N__law_trace) (k := 1) F sc__law_trace (fun cdv A outer s H E hr C => ?_), gm, F.kp, (F.binds fun _ _ _ _ _ _ us hl => match us, hl with | [_, _, _], _ => rfl), .nil, fun _ => .nil⟩
  have hp := po_def (P := P) (w := w) (K := K) (mg := mg) (base := base) (N := N__law_trace) (qual := "_law_trace") (sc := defScope s__law_trace) (f := f) (cdv := cdv) (A := A) (outer := outer) (s := s) (H := H) (E := E)
  exact (ss_one (ss_ret (SF.toE (sf_lc C (si_seq (se_call K__law_row C (hr.mono (by decide)) (by rfl) (sa_cons (se_var (pv 1)) (sa_cons (se_var (pv 2)) sa_nil)))) (blkOk_by (own := [("_law_number", 3)]) (N := N__law_trace) (sc := defScope s__law_trace) (by decide +kernel)) (fun _ _ _ _ _ => (st_one (Ctx.blk C _ _ _ _ _).nd rfl (by first | exact Or.inl rfl | exact Or.inr rfl))) (fun _ _ _ _ _ => sts_nil) (fun _ _ _ _ _ => (se_ix (sq_var (pv 0)) (SE.toQ (se_mod (sq_var (pv 3)) (SE.toQ (se_len (by rfl) T.m_len (sq_var (pv 0)))))) (fun _ _ => rfl))) (by decide)))))
noncomputable def g__law_traces : En → Oc Res :=
  (sq (asg 4 (cal F__law_row 2 [] (aC (vr 1) (aC (cst (.int 40)) aN))))
  (sq (asgO 5 (lsd aN))
  (sq (asg 6 (vr 2))
  (sq (fr (.one 7) (rng1 (aC (vr 2) aN)) (sq (asg 8 (bi modD (bi ixD (vo 4) (vo 7)) (bi addD (vo 3) (cst (.int 1)))))
  (sq (app 5 (lc (.one 9) [9] (itm (slc (vo 4) (some (vr 6)) (some (bi addD (vo 6) (vo 8))))) yes (bi ixD (vo 0) (bi modD (vo 9) (un lenD (vo 0))))))
  (asg 6 (bi addD (vo 6) (vo 8))))))
  (frz 5 (ret (vr 5)))))))
noncomputable def F__law_traces : List D → Oc D := fnB 10 4 g__law_traces
theorem K__law_traces (T : Facts K mg) : Kn P w K mg base 2 "_law_traces" 4 [] F__law_traces := by
  obtain ⟨f, fd, F, gm⟩ := T.f__law_traces
  have K__law_row := K__law_row (P := P) (w := w) (base := base) T
  refine ⟨f, fd, ["_law_names_here", "_law_cell_here", "_law_count", "_law_size"], [], [], fn_ok (N := N__law_traces) (k := 1) F sc__law_traces (fun cdv A outer s H E hr C => ?_), gm, F.kp, (F.binds fun _ _ _ _ _ _ us hl => match us, hl with | [_, _, _, _], _ => rfl), .nil, fun _ => .nil⟩
  have hp := po_def (P := P) (w := w) (K := K) (mg := mg) (base := base) (N := N__law_traces) (qual := "_law_traces") (sc := defScope s__law_traces) (f := f) (cdv := cdv) (A := A) (outer := outer) (s := s) (H := H) (E := E)
  exact (ss_cons (ss_set (i := 4) C rfl (by first | exact Or.inl rfl | exact Or.inr rfl) (se_call K__law_row C (hr.mono (by decide)) (by rfl) (sa_cons (se_var (pv 1)) (sa_cons se_int sa_nil))))
  (ss_cons (ss_setO (i := 5) C rfl (by first | exact Or.inl rfl | exact Or.inr rfl) (sf_lst sa_nil))
  (ss_cons (ss_set (i := 6) C rfl (by first | exact Or.inl rfl | exact Or.inr rfl) (se_var (pv 2)))
  (ss_cons (ss_for C hp (si_rng1 (by rfl) T.m_range (sa_cons (se_var (pv 2)) sa_nil)) (st_one C.nd rfl (by first | exact Or.inl rfl | exact Or.inr rfl)) (ss_cons (ss_set (i := 8) C rfl (by first | exact Or.inl rfl | exact Or.inr rfl) (se_mod (SE.toQ (se_ix (sq_var (pv 4)) (sq_var (pv 7)) (fun _ _ => rfl))) (SE.toQ (se_add (sq_var (pv 3)) (SE.toQ se_int)))))
  (ss_cons (ss_app (pv 5) (SF.toE (sf_lc C (si_seq (se_sl (sq_var (pv 4)) (so_some (se_var (pv 6))) (so_some (se_add (sq_var (pv 6)) (sq_var (pv 8)))))) (blkOk_by (own := [("_law_number", 9)]) (N := N__law_traces) (sc := defScope s__law_traces) (by decide +kernel)) (fun _ _ _ _ _ => (st_one (Ctx.blk C _ _ _ _ _).nd rfl (by first | exact Or.inl rfl | exact Or.inr rfl))) (fun _ _ _ _ _ => sts_nil) (fun _ _ _ _ _ => (se_ix (sq_var (pv 0)) (SE.toQ (se_mod (sq_var (pv 9)) (SE.toQ (se_len (by rfl) T.m_len (sq_var (pv 0)))))) (fun _ _ => rfl))) (by decide))))
  (ss_one (ss_set (i := 6) C rfl (by first | exact Or.inl rfl | exact Or.inr rfl) (se_add (sq_var (pv 6)) (sq_var (pv 8))))))))
  (ss_one (ss_frz 5 (ss_ret (se_var (pv 5)))))))))
noncomputable def g__law_all : En → Oc Res :=
  (sq (asg 2 (lsd (aC (lsd aN) aN)))
  (sq (asg 3 (lsd (aC (lsd aN) aN)))
  (sq (fr (.one 4) (rng1 (aC (vr 1) aN)) (sq (asg 5 (lsd aN))
  (sq (fr (.one 6) (itm (vr 2)) (asg 5 (bi addD (vo 5) (lc (.one 7) [7] (itm (vr 0)) yes (bi addD (vo 6) (lsd (aC (vr 7) aN)))))))
  (sq (asg 2 (vr 5))
  (asg 3 (bi addD (vo 3) (vo 2)))))))
  (ret (vr 3)))))
noncomputable def F__law_all : List D → Oc D := fnB 8 2 g__law_all
theorem K__law_all (T : Facts K mg) : Kn P w K mg base 1 "_law_all" 2 [] F__law_all := by
  obtain ⟨f, fd, F, gm⟩ := T.f__law_all
  refine ⟨f, fd, ["_law_names_here", "_law_size"], [], [], fn_ok (N := N__law_all) (k := 0) F sc__law_all (fun cdv A outer s H E hr C => ?_), gm, F.kp, (F.binds fun _ _ _ _ _ _ us hl => match us, hl with | [_, _], _ => rfl), .nil, fun _ => .nil⟩
  have hp := po_def (P := P) (w := w) (K := K) (mg := mg) (base := base) (N := N__law_all) (qual := "_law_all") (sc := defScope s__law_all) (f := f) (cdv := cdv) (A := A) (outer := outer) (s := s) (H := H) (E := E)
  exact (ss_cons (ss_set (i := 2) C rfl (by first | exact Or.inl rfl | exact Or.inr rfl) (SF.toE (sf_lst (sa_cons (SF.toE (sf_lst sa_nil)) sa_nil))))
  (ss_cons (ss_set (i := 3) C rfl (by first | exact Or.inl rfl | exact Or.inr rfl) (SF.toE (sf_lst (sa_cons (SF.toE (sf_lst sa_nil)) sa_nil))))
  (ss_cons (ss_for C hp (si_rng1 (by rfl) T.m_range (sa_cons (se_var (pv 1)) sa_nil)) (st_one C.nd rfl (by first | exact Or.inl rfl | exact Or.inr rfl)) (ss_cons (ss_set (i := 5) C rfl (by first | exact Or.inl rfl | exact Or.inr rfl) (SF.toE (sf_lst sa_nil)))
  (ss_cons (ss_for C hp (si_seq (se_var (pv 2))) (st_one C.nd rfl (by first | exact Or.inl rfl | exact Or.inr rfl)) (ss_one (ss_set (i := 5) C rfl (by first | exact Or.inl rfl | exact Or.inr rfl) (se_add (sq_var (pv 5)) (SE.toQ (SF.toE (sf_lc C (si_seq (se_var (pv 0))) (blkOk_by (own := [("_law_name", 7)]) (N := N__law_all) (sc := defScope s__law_all) (by decide +kernel)) (fun _ _ _ _ _ => (st_one (Ctx.blk C _ _ _ _ _).nd rfl (by first | exact Or.inl rfl | exact Or.inr rfl))) (fun _ _ _ _ _ => sts_nil) (fun _ _ _ _ _ => (se_add (sq_var (pv 6)) (SE.toQ (SF.toE (sf_lst (sa_cons (se_var (pv 7)) sa_nil)))))) (by decide))))))))
  (ss_cons (ss_set (i := 2) C rfl (by first | exact Or.inl rfl | exact Or.inr rfl) (se_var (pv 5)))
  (ss_one (ss_set (i := 3) C rfl (by first | exact Or.inl rfl | exact Or.inr rfl) (se_add (sq_var (pv 3)) (sq_var (pv 2)))))))))
  (ss_one (ss_ret (se_var (pv 3)))))))
noncomputable def g__law_holds : En → Oc Res :=
  (sq (asg 5 (cal F_accepts 3 [] (aC (vr 0) (aC (vr 1) (aC (bi addD (vo 2) (vo 4)) aN)))))
  (ret (anV (orV (bi neD (vo 3) (cst (.str "always"))) (vr 5)) (orV (bi neD (vo 3) (cst (.str "never"))) (ntV (vr 5))))))
noncomputable def F__law_holds : List D → Oc D := fnB 6 5 g__law_holds
theorem K__law_holds (T : Facts K mg) : Kn P w K mg base 3 "_law_holds" 5 [] F__law_holds := by
  obtain ⟨f, fd, F, gm⟩ := T.f__law_holds
  have K_accepts := K_accepts (P := P) (w := w) (base := base) T
  refine ⟨f, fd, ["_law_made", "_law_names_here", "_law_trace_here", "_law_told", "_law_more"], [], [], fn_ok (N := N__law_holds) (k := 2) F sc__law_holds (fun cdv A outer s H E hr C => ?_), gm, F.kp, (F.binds fun _ _ _ _ _ _ us hl => match us, hl with | [_, _, _, _, _], _ => rfl), .nil, fun _ => .nil⟩
  have hp := po_def (P := P) (w := w) (K := K) (mg := mg) (base := base) (N := N__law_holds) (qual := "_law_holds") (sc := defScope s__law_holds) (f := f) (cdv := cdv) (A := A) (outer := outer) (s := s) (H := H) (E := E)
  exact (ss_cons (ss_set (i := 5) C rfl (by first | exact Or.inl rfl | exact Or.inr rfl) (se_call K_accepts C (hr.mono (by decide)) (by rfl) (sa_cons (se_var (pv 0)) (sa_cons (se_var (pv 1)) (sa_cons (se_add (sq_var (pv 2)) (sq_var (pv 4))) sa_nil)))))
  (ss_one (ss_ret (se_and (se_or (se_ne (sq_var (pv 3)) (SE.toQ se_str) C.units) (se_one (se_var (pv 5)))) (se_one (se_or (se_ne (sq_var (pv 3)) (SE.toQ se_str) C.units) (se_one (se_not (se_var (pv 5))))))))))
noncomputable def g__law_differs : En → Oc Res :=
  (sq (asg 4 (lc (.one 5) [5] (itm (cal F__law_all 2 [] (aC (vr 1) (aC (cst (.int 3)) aN)))) yes (cal F_accepts 3 [] (aC (vr 0) (aC (vr 1) (aC (bi addD (vo 2) (vo 5)) aN))))))
  (sq (iff (orr (tst (bi eqD (vo 3) (cst (.str "always")))) (tst (bi eqD (vo 3) (cst (.str "never"))))) (ret (bi eqD (bi ixD (vo 4) (cst (.int 0))) (bi eqD (vo 3) (cst (.str "always"))))) sNx)
  (ret (anV (bi eqD (bi ixD (vo 4) (cst (.int 0))) (bi eqD (vo 3) (cst (.str "yes")))) (anV (bi inD (cst (.bl true)) (vo 4)) (bi inD (cst (.bl false)) (vo 4)))))))
noncomputable def F__law_differs : List D → Oc D := fnB 6 4 g__law_differs
theorem K__law_differs (T : Facts K mg) : Kn P w K mg base 3 "_law_differs" 4 [] F__law_differs := by
  obtain ⟨f, fd, F, gm⟩ := T.f__law_differs
  have K__law_all := K__law_all (P := P) (w := w) (base := base) T
  have K_accepts := K_accepts (P := P) (w := w) (base := base) T
  refine ⟨f, fd, ["_law_made", "_law_names_here", "_law_trace_here", "_law_told"], [], [], fn_ok (N := N__law_differs) (k := 2) F sc__law_differs (fun cdv A outer s H E hr C => ?_), gm, F.kp, (F.binds fun _ _ _ _ _ _ us hl => match us, hl with | [_, _, _, _], _ => rfl), .nil, fun _ => .nil⟩
  have hp := po_def (P := P) (w := w) (K := K) (mg := mg) (base := base) (N := N__law_differs) (qual := "_law_differs") (sc := defScope s__law_differs) (f := f) (cdv := cdv) (A := A) (outer := outer) (s := s) (H := H) (E := E)
  exact (ss_cons (ss_setLc (i := 4) C rfl rfl (sw_true rfl rfl rfl (by decide +kernel)) (si_seq (se_call K__law_all C (hr.mono (by decide)) (by rfl) (sa_cons (se_var (pv 1)) (sa_cons se_int sa_nil)))) (blkOk_by (own := [("_law_more", 5)]) (N := N__law_differs) (sc := defScope s__law_differs) (by decide +kernel)) (fun _ _ _ _ _ => (st_one (Ctx.blk C _ _ _ _ _).nd rfl (by first | exact Or.inl rfl | exact Or.inr rfl))) (fun _ _ _ _ _ => sts_nil) (fun _ _ _ _ _ => (se_call K_accepts (Ctx.blk C _ _ _ _ _) (hr.mono (by decide)) (by rfl) (sa_cons (se_var (pv 0)) (sa_cons (se_var (pv 1)) (sa_cons (se_add (sq_var (pv 2)) (sq_var (pv 5))) sa_nil))))) (by decide))
  (ss_cons (ss_if (st_of (sw_or (st_eq (sq_var (pv 3)) (SE.toQ se_str) C.units) (sw_or1 (st_eq (sq_var (pv 3)) (SE.toQ se_str) C.units)))) (ss_one (ss_ret (se_eq (SE.toQ (se_ix (sq_var (pv 4)) (SE.toQ se_int) (fun _ _ => rfl))) (SE.toQ (se_eq (sq_var (pv 3)) (SE.toQ se_str) C.units)) C.units))) ss_nil)
  (ss_one (ss_ret (se_and (se_eq (SE.toQ (se_ix (sq_var (pv 4)) (SE.toQ se_int) (fun _ _ => rfl))) (SE.toQ (se_eq (sq_var (pv 3)) (SE.toQ se_str) C.units)) C.units) (se_and (se_in (SE.toQ se_bl) (sq_var (pv 4)) C.units) (se_one (se_in (SE.toQ se_bl) (sq_var (pv 4)) C.units))))))))
noncomputable def g_law : En → Oc Res :=
  (sq (asg 1 (cal F__law_names 1 [] (aC (cal F__law_cell 2 [] (aC (vr 0) (aC (cst (.int 0)) aN))) aN)))
  (sq (asg 2 (cal F__law_trace 3 [] (aC (vr 1) (aC (cal F__law_cell 2 [] (aC (vr 0) (aC (cst (.int 2)) aN))) (aC (bi modD (cal F__law_cell 2 [] (aC (vr 0) (aC (cst (.int 3)) aN))) (cst (.int 30))) aN)))))
  (sq (fr (.one 3) (itm (cal F__law_rules 2 [] (aC (cal F__law_cell 2 [] (aC (vr 0) (aC (cst (.int 1)) aN))) (aC (un lenD (vo 1)) aN)))) (sq (asg 4 (cal F_Rule___init__ 2 [] (aC (un listD (bi ixD (vo 3) (cst (.int 0)))) (aC (lc (.one 8) [8] (itm (bi ixD (vo 3) (cst (.int 1)))) yes (un listD (vo 8))) aN))))
  (sq (asg 5 (un revD (vo 2)))
  (sq (asg 6 (cal F_verdict 3 [] (aC (vr 4) (aC (vr 1) (aC (vr 5) aN)))))
  (sq (iff (orr (tst (bi ninD (vo 6) (lsd (aC (cst (.str "always")) (aC (cst (.str "never")) (aC (cst (.str "yes")) (aC (cst (.str "no")) aN))))))) (nt (tst (cal F__law_differs 4 [] (aC (vr 4) (aC (vr 1) (aC (vr 5) (aC (vr 6) aN)))))))) (ret (cst (.bl false))) sNx)
  (sq (asg 6 (cal F_verdict 3 [] (aC (vr 4) (aC (vr 1) (aC (vr 2) aN)))))
  (sq (iff (orr (tst (bi ninD (vo 6) (lsd (aC (cst (.str "always")) (aC (cst (.str "never")) (aC (cst (.str "yes")) (aC (cst (.str "no")) aN))))))) (nt (tst (cal F__law_differs 4 [] (aC (vr 4) (aC (vr 1) (aC (vr 2) (aC (vr 6) aN)))))))) (ret (cst (.bl false))) sNx)
  (fr (.one 7) (itm (bi addD (lsd (aC (cal F__law_cell 2 [] (aC (vr 0) (aC (cst (.int 4)) aN))) (aC (cal F__law_cell 2 [] (aC (vr 0) (aC (cst (.int 5)) aN))) aN))) (slc (vo 0) (some (cst (.int 6))) (some (cst (.int 20)))))) (iff (nt (tst (cal F__law_holds 5 [] (aC (vr 4) (aC (vr 1) (aC (vr 2) (aC (vr 6) (aC (cal F__law_trace 3 [] (aC (vr 1) (aC (vr 7) (aC (bi modD (vo 7) (cst (.int 30))) aN)))) aN)))))))) (ret (cst (.bl false))) sNx)))))))))
  (ret (cst (.bl true))))))
noncomputable def F_law : List D → Oc D := fnB 9 1 g_law
theorem law_fn (T : Facts K mg) {f : Addr} {fd : FuncData} (F : Fun K "law" "law" s_law f fd) : FnOk P w K mg base (L2.CX P w) 4 f fd ["_law_script"] (spF K mg 1 F_law) := by
  have K__law_cell := K__law_cell (P := P) (w := w) (base := base) T
  have K__law_differs := K__law_differs (P := P) (w := w) (base := base) T
  have K__law_holds := K__law_holds (P := P) (w := w) (base := base) T
  have K__law_names := K__law_names (P := P) (w := w) (base := base) T
  have K__law_rules := K__law_rules (P := P) (w := w) (base := base) T
  have K__law_trace := K__law_trace (P := P) (w := w) (base := base) T
  have K_Rule___init__ := K_Rule___init__ (P := P) (w := w) (base := base) T
  have K_verdict := K_verdict (P := P) (w := w) (base := base) T
  refine fn_ok (N := N_law) (k := 3) F sc_law (fun cdv A outer s H E hr C => ?_)
  have hp := po_def (P := P) (w := w) (K := K) (mg := mg) (base := base) (N := N_law) (qual := "law") (sc := defScope s_law) (f := f) (cdv := cdv) (A := A) (outer := outer) (s := s) (H := H) (E := E)
  exact (ss_cons (ss_set (i := 1) C rfl (by first | exact Or.inl rfl | exact Or.inr rfl) (se_call K__law_names C (hr.mono (by decide)) (by rfl) (sa_cons (se_call K__law_cell C (hr.mono (by decide)) (by rfl) (sa_cons (se_var (pv 0)) (sa_cons se_int sa_nil))) sa_nil)))
  (ss_cons (ss_set (i := 2) C rfl (by first | exact Or.inl rfl | exact Or.inr rfl) (se_call K__law_trace C (hr.mono (by decide)) (by rfl) (sa_cons (se_var (pv 1)) (sa_cons (se_call K__law_cell C (hr.mono (by decide)) (by rfl) (sa_cons (se_var (pv 0)) (sa_cons se_int sa_nil))) (sa_cons (se_mod (SE.toQ (se_call K__law_cell C (hr.mono (by decide)) (by rfl) (sa_cons (se_var (pv 0)) (sa_cons se_int sa_nil)))) (SE.toQ se_int)) sa_nil)))))
  (ss_cons (ss_for C hp (si_seq (se_call K__law_rules C (hr.mono (by decide)) (by rfl) (sa_cons (se_call K__law_cell C (hr.mono (by decide)) (by rfl) (sa_cons (se_var (pv 0)) (sa_cons se_int sa_nil))) (sa_cons (se_len (by rfl) T.m_len (sq_var (pv 1))) sa_nil)))) (st_one C.nd rfl (by first | exact Or.inl rfl | exact Or.inr rfl)) (ss_cons (ss_set (i := 4) C rfl (by first | exact Or.inl rfl | exact Or.inr rfl) (SF.toE (sf_make K_Rule___init__ C (hr.mono (by decide)) (by rfl) (sa_cons (SF.toE (sf_list (by rfl) T.m_list (SE.toQ (se_ix (sq_var (pv 3)) (SE.toQ se_int) (fun _ _ => rfl))))) (sa_cons (SF.toE (sf_lc C (si_seq (se_ix (sq_var (pv 3)) (SE.toQ se_int) (fun _ _ => rfl))) (blkOk_by (own := [("_law_moves", 8)]) (N := N_law) (sc := defScope s_law) (by decide +kernel)) (fun _ _ _ _ _ => (st_one (Ctx.blk C _ _ _ _ _).nd rfl (by first | exact Or.inl rfl | exact Or.inr rfl))) (fun _ _ _ _ _ => sts_nil) (fun _ _ _ _ _ => (SF.toE (sf_list (by rfl) T.m_list (sq_var (pv 8))))) (by decide))) sa_nil)))))
  (ss_cons (ss_set (i := 5) C rfl (by first | exact Or.inl rfl | exact Or.inr rfl) (se_rev (sq_var (pv 2))))
  (ss_cons (ss_set (i := 6) C rfl (by first | exact Or.inl rfl | exact Or.inr rfl) (se_call K_verdict C (hr.mono (by decide)) (by rfl) (sa_cons (se_var (pv 4)) (sa_cons (se_var (pv 1)) (sa_cons (se_var (pv 5)) sa_nil)))))
  (ss_cons (ss_if (st_of (sw_or (st_nin (sq_var (pv 6)) (SE.toQ (SF.toE (sf_lst (sa_cons se_str (sa_cons se_str (sa_cons se_str (sa_cons se_str sa_nil))))))) C.units) (sw_or1 (st_not (st_val (se_call K__law_differs C (hr.mono (by decide)) (by rfl) (sa_cons (se_var (pv 4)) (sa_cons (se_var (pv 1)) (sa_cons (se_var (pv 5)) (sa_cons (se_var (pv 6)) sa_nil)))))))))) (ss_one (ss_ret se_bl)) ss_nil)
  (ss_cons (ss_set (i := 6) C rfl (by first | exact Or.inl rfl | exact Or.inr rfl) (se_call K_verdict C (hr.mono (by decide)) (by rfl) (sa_cons (se_var (pv 4)) (sa_cons (se_var (pv 1)) (sa_cons (se_var (pv 2)) sa_nil)))))
  (ss_cons (ss_if (st_of (sw_or (st_nin (sq_var (pv 6)) (SE.toQ (SF.toE (sf_lst (sa_cons se_str (sa_cons se_str (sa_cons se_str (sa_cons se_str sa_nil))))))) C.units) (sw_or1 (st_not (st_val (se_call K__law_differs C (hr.mono (by decide)) (by rfl) (sa_cons (se_var (pv 4)) (sa_cons (se_var (pv 1)) (sa_cons (se_var (pv 2)) (sa_cons (se_var (pv 6)) sa_nil)))))))))) (ss_one (ss_ret se_bl)) ss_nil)
  (ss_one (ss_for C hp (si_seq (se_add (SE.toQ (SF.toE (sf_lst (sa_cons (se_call K__law_cell C (hr.mono (by decide)) (by rfl) (sa_cons (se_var (pv 0)) (sa_cons se_int sa_nil))) (sa_cons (se_call K__law_cell C (hr.mono (by decide)) (by rfl) (sa_cons (se_var (pv 0)) (sa_cons se_int sa_nil))) sa_nil))))) (SE.toQ (se_sl (sq_var (pv 0)) (so_some se_int) (so_some se_int))))) (st_one C.nd rfl (by first | exact Or.inl rfl | exact Or.inr rfl)) (ss_one (ss_if (st_not (st_val (se_call K__law_holds C (hr.mono (by decide)) (by rfl) (sa_cons (se_var (pv 4)) (sa_cons (se_var (pv 1)) (sa_cons (se_var (pv 2)) (sa_cons (se_var (pv 6)) (sa_cons (se_call K__law_trace C (hr.mono (by decide)) (by rfl) (sa_cons (se_var (pv 1)) (sa_cons (se_var (pv 7)) (sa_cons (se_mod (sq_var (pv 7)) (SE.toQ se_int)) sa_nil)))) sa_nil)))))))) (ss_one (ss_ret se_bl)) ss_nil)))))))))))
  (ss_one (ss_ret se_bl)))))
end
end Lw

set_option Elab.async false
set_option linter.all false
set_option maxRecDepth 100000
set_option maxHeartbeats 4000000
namespace Lw
open Fx
theorem V_cell (ns : List Int) (k : Nat) : F__law_cell [.fz (ns.map .int), .int k] = .ok (.int (ns.getD k 0)) := by
  unfold F__law_cell g__law_cell
  by_cases h : k < ns.length
  · simp [h, ixL_nat (i := k) (d := .int ns[k]) (ds := ns.map D.int) (by simp [h])]
  · simp [h, List.getElem?_eq_none (Nat.le_of_not_lt h)]
def rowStep (big : Bool) (st : Int × Int) (k : Int) : Int × (Int × Int) :=
  if big then (st.1 % 840, (st.1 / 840, st.2)) else
    let s := (st.2 * 48271 + k) % 2147483647
    ((s * 69621) % 2147483629 / 7 % 840, (st.1, s))
def rowL (big : Bool) : List Int → Int × Int → List Int
  | [], _ => []
  | k :: ks, st => (rowStep big st k).1 :: rowL big ks (rowStep big st k).2
def row (c : Int) (n : Nat) : List Int := rowL (decide (10 ^ 18 ≤ c)) ((List.range n).map fun (i : Nat) => (i : Int)) (c, c % 2147483629 + 1)
theorem rowL_length (big : Bool) : ∀ (ks : List Int) (st : Int × Int), (rowL big ks st).length = ks.length
  | [], _ => rfl
  | k :: ks, st => by simp [rowL, rowL_length big ks]
theorem row_length (c : Int) (n : Nat) : (row c n).length = n := by simp [row, rowL_length]
theorem rowL_range (big : Bool) : ∀ (ks : List Int) (st : Int × Int), ∀ x ∈ rowL big ks st, 0 ≤ x ∧ x < 840
  | [], _, x, h => by simp [rowL] at h
  | k :: ks, st, x, h => by
    unfold rowL at h
    rcases List.mem_cons.mp h with e | h
    · subst e
      unfold rowStep
      split <;> simp only <;> omega
    · exact rowL_range big ks _ x h
theorem row_range (c : Int) (n : Nat) : ∀ x ∈ row c n, 0 ≤ x ∧ x < 840 := rowL_range _ _ _
theorem rngL_zero (n : Nat) : rngL 0 n = ((List.range n).map fun (i : Nat) => (i : Int)).map D.int := by simp [rngL]
theorem loop_row (c n : Int) : ∀ (ks : List Int) (acc : List Int) (st : Int × Int) (o : Sl), acc.length + ks.length ≤ 1000 → ∃ x y z, forL (Tg.one 5)
          (iff (tst (bi (cmpD fun i j => decide (j ≤ i)) (vo 0) (bi powD (cst (D.int 10)) (cst (D.int 18)))))
            (sq (app 2 (bi modD (un intD (vo 3)) (cst (D.int 840)))) (asg 3 (bi fdivD (vo 3) (cst (D.int 840)))))
            (sq
              (asg 4 (bi modD (un intD (bi addD (bi mulD (vo 4) (cst (D.int 48271))) (vo 5))) (cst (D.int 2147483647))))
              (app 2
                (bi modD
                  (bi fdivD (bi modD (un intD (bi mulD (vo 4) (cst (D.int 69621)))) (cst (D.int 2147483629)))
                    (cst (D.int 7)))
                  (cst (D.int 840))))))
          (ks.map D.int)
          [.sh (.int c), .sh (.int n), .ow (.lst (acc.map .int)), .sh (.int st.1), .sh (.int st.2), o] = .ok (.nx [.sh (.int c), .sh (.int n), .ow (.lst ((acc ++ rowL (decide (10 ^ 18 ≤ c)) ks st).map .int)), x, y, z])
  | [], acc, st, o, _ => ⟨_, _, _, by simp [forL_nil, rowL]; exact ⟨rfl, rfl, rfl⟩⟩
  | k :: ks, acc, st, o, h => by
    rw [List.map_cons, forL_step (bindT_one _ _ _)]
    simp only [List.length_cons] at h
    have hl : (acc.map D.int).length ≤ 1000000 := by simp; omega
    by_cases hb : 10 ^ 18 ≤ c
    · have hb2 : (1000000000000000000 : Int) ≤ c := by simpa using hb
      obtain ⟨x, y, z, ih⟩ := loop_row c n ks (acc ++ [st.1 % 840]) (st.1 / 840, st.2) (.sh (.int k)) (by simp; omega)
      refine ⟨x, y, z, ?_⟩
      simp [chk, hb2, appR_ok hl]
      simp [hb2] at ih
      rw [ih]
      simp [rowL, rowStep]
    · have hb2 : ¬ (1000000000000000000 : Int) ≤ c := by simpa using hb
      obtain ⟨x, y, z, ih⟩ := loop_row c n ks (acc ++ [((st.2 * 48271 + k) % 2147483647 * 69621) % 2147483629 / 7 % 840]) (st.1, (st.2 * 48271 + k) % 2147483647) (.sh (.int k)) (by simp; omega)
      refine ⟨x, y, z, ?_⟩
      simp [chk, hb2, appR_ok hl]
      simp [hb2] at ih
      rw [ih]
      simp [rowL, rowStep]
theorem V_row (c : Int) (n : Nat) (hn : n ≤ 1000) : F__law_row [.int c, .int n] = .ok (.lst ((row c n).map .int)) := by
  unfold F__law_row g__law_row
  simp [rng1R_nat (show n ≤ 1000000 by omega), chk]
  rw [rngL_zero]
  obtain ⟨x, y, z, h⟩ := loop_row c n ((List.range n).map fun (i : Nat) => (i : Int)) [] (c, c % 2147483629 + 1) .no (by simp; omega)
  simp only [List.map_nil] at h
  rw [h]
  simp [row]
end Lw

set_option Elab.async false
set_option linter.all false
set_option maxRecDepth 100000
set_option maxHeartbeats 4000000
namespace Lw
open Fx
open PySem (Str)
open PySem.PyData (strOk)
structure RD where
  acc : List Bool
  mv : List (List Nat)
def encB (a : List Bool) : List D := a.map .bl
@[simp] theorem encB_len (f : List Bool) : (encB f).length = f.length := by simp [encB]
def encS (a : List Str) : List D := a.map .str
@[simp] theorem encS_len (f : List Str) : (encS f).length = f.length := by simp [encS]
theorem encS_cons (x : Str) (xs : List Str) : encS (x :: xs) = .str x :: encS xs := rfl
theorem encS_app (x y : List Str) : encS (x ++ y) = encS x ++ encS y := by simp [encS]
theorem encB_ix {f : List Bool} {i : Nat} {x : Bool} (h : f[i]? = some x) : ixL (encB f) (i : Int) = .ok (.bl x) := ixL_map (f := D.bl) h
theorem encS_ix {f : List Str} {i : Nat} {x : Str} (h : f[i]? = some x) : ixL (encS f) (i : Int) = .ok (.str x) := ixL_map (f := D.str) h
@[simp] theorem allD_encB (bs : List Bool) : allD (.lst (encB bs)) = .ok (.bl (bs.all id)) := allD_lst bs
@[simp] theorem anyD_encB (bs : List Bool) : anyD (.lst (encB bs)) = .ok (.bl (bs.any id)) := anyD_lst bs
def encA (a : List Bool) : D := .tup (encB a)
def encI (f : List Nat) : List D := f.map fun (e : Nat) => D.int (e : Int)
@[simp] theorem encI_len (f : List Nat) : (encI f).length = f.length := by simp [encI]
theorem encI_cons (x : Nat) (xs : List Nat) : encI (x :: xs) = .int (x : Int) :: encI xs := rfl
theorem encI_app (x y : List Nat) : encI (x ++ y) = encI x ++ encI y := by simp [encI]
theorem encI_ix {f : List Nat} {i x : Nat} (h : f[i]? = some x) : ixL (encI f) (i : Int) = .ok (.int (x : Int)) := ixL_map (f := fun (e : Nat) => D.int (e : Int)) h
def encRow (r : List Nat) : D := .tup (encI r)
def encM (m : List (List Nat)) : D := .tup (m.map encRow)
def encR (r : RD) : D := .obj "Rule" [("accepting", encA r.acc), ("moves", encM r.mv)]
def encL (r : RD) : D := .lst [encA r.acc, encM r.mv]
def RD.a (r : RD) (x : Nat) : Bool := r.acc.getD x false
structure RD.Ok (r : RD) (n k : Nat) : Prop where
  acc : r.acc.length = n
  mv : r.mv.length = n
  row : ∀ x ∈ r.mv, x.length = k ∧ ∀ e ∈ x, e < n
  one : 1 ≤ n
  six : n ≤ 6
def RD.nexts (r : RD) (s : Nat) : List Nat := r.mv.getD s []
def RD.step (r : RD) (ns : List Str) (s : Nat) (a : Str) : Nat := (r.nexts s).getD (ns.idxOf a) 0
def RD.run (r : RD) (ns : List Str) (s : Nat) (ts : List Str) : Nat := ts.foldl (r.step ns) s
section
variable {r : RD} {n k : Nat} {ns : List Str}
theorem RD.Ok.at_ (h : r.Ok n k) {s : Nat} (hs : s < n) : r.mv[s]? = some (r.nexts s) ∧ r.nexts s ∈ r.mv := by
  have hl : s < r.mv.length := by rw [h.mv]; exact hs
  have e : r.nexts s = r.mv[s] := by simp [RD.nexts, hl]
  rw [e]
  exact ⟨List.getElem?_eq_getElem hl, List.getElem_mem hl⟩
theorem RD.Ok.stepAt (h : r.Ok n k) (hk : ns.length = k) {s : Nat} (hs : s < n) {a : Str} (ha : a ∈ ns) : (r.nexts s)[ns.idxOf a]? = some (r.step ns s a) ∧ r.step ns s a < n := by
  have hl : ns.idxOf a < (r.nexts s).length := by
    rw [(h.row _ (h.at_ hs).2).1, ← hk]
    exact List.idxOf_lt_length_of_mem ha
  have e : r.step ns s a = (r.nexts s)[ns.idxOf a] := by simp [RD.step, hl]
  rw [e]
  exact ⟨List.getElem?_eq_getElem hl, (h.row _ (h.at_ hs).2).2 _ (List.getElem_mem hl)⟩
theorem RD.Ok.run_lt (h : r.Ok n k) (hk : ns.length = k) : ∀ {ts : List Str} {s : Nat}, s < n → (∀ a ∈ ts, a ∈ ns) → r.run ns s ts < n
  | [], s, hs, _ => hs
  | a :: ts, s, hs, ha => h.run_lt hk (s := r.step ns s a) (h.stepAt hk hs (ha a List.mem_cons_self)).2 fun b hb => ha b (List.mem_cons_of_mem _ hb)
structure Nm (ns : List Str) : Prop where
  ne : ns ≠ []
  five : ns.length ≤ 5
  ok : ∀ x ∈ ns, strOk x = true
theorem loop_after (h : r.Ok n k) (hk : ns.length = k) (g : Nm ns) {dn dt : D} (hn : listD dn = .ok (.lst (encS ns))) : ∀ (ts : List Str) (s : Nat) (o : Sl), s < n → (∀ a ∈ ts, a ∈ ns) → ∃ o', forL (.one 4) (asg 3 (bi ixD (bi ixD (un (fldD [("Rule" : Str)] "moves") (vo 0)) (vo 3)) (mtD isLst indexM (un listD (vo 1)) (aC (vr 4) aN)))) (encS ts)
    [.sh (encR r), .sh dn, .sh dt, .sh (.int (s : Nat)), o] = .ok (.nx [.sh (encR r), .sh dn, .sh dt, .sh (.int (r.run ns s ts : Nat)), o'])
  | [], s, o, _, _ => ⟨o, rfl⟩
  | a :: ts, s, o, hs, ha => by
    have ha1 := ha a List.mem_cons_self
    obtain ⟨h1, h2⟩ := h.stepAt hk hs ha1
    obtain ⟨o', ih⟩ := loop_after h hk g (dt := dt) hn ts (r.step ns s a) (.sh (.str a)) h2 fun b hb => ha b (List.mem_cons_of_mem _ hb)
    refine ⟨o', ?_⟩
    rw [encS_cons, forL_step (bindT_one _ _ _)]
    have e1 : fldD [("Rule" : Str)] "moves" (encR r) = .ok (encM r.mv) := by rfl
    have e2 : ixL (r.mv.map encRow) (s : Int) = .ok (encRow (r.nexts s)) := ixL_map (h.at_ hs).1
    have e3 : indexD (.lst (encS ns)) (.str a) = .ok (.int (ns.idxOf a : Nat)) := indexD_strs (g.ok a ha1) g.ok ha1
    have e4 : ixL (encI (r.nexts s)) (ns.idxOf a : Nat) = .ok (.int (r.step ns s a : Nat)) := encI_ix h1
    simp [e1, hn, e3, encM, e2, encRow, e4]
    rw [ih]
    rfl
theorem V_after (h : r.Ok n k) (hk : ns.length = k) (g : Nm ns) {dn dt : D} {ts : List Str} (hn : listD dn = .ok (.lst (encS ns))) (ht : items dt = some (encS ts)) (ha : ∀ a ∈ ts, a ∈ ns) : F_state_after [encR r, dn, dt] = .ok (.int (r.run ns 0 ts : Nat)) := by
  unfold F_state_after g_state_after
  obtain ⟨o, e⟩ := loop_after h hk g (dt := dt) hn ts 0 .no (Nat.lt_of_lt_of_le Nat.zero_lt_one h.one) ha
  simp [ht]
  have e' : (0 : Int) = ((0 : Nat) : Int) := rfl
  rw [e', e]
  simp
theorem RD.Ok.accAt (h : r.Ok n k) {s : Nat} (hs : s < n) : r.acc[s]? = some (r.a s) := by
  have hl : s < r.acc.length := by rw [h.acc]; exact hs
  simp [RD.a, hl]
theorem V_accepts (h : r.Ok n k) (hk : ns.length = k) (g : Nm ns) {dn dt : D} {ts : List Str} (hn : listD dn = .ok (.lst (encS ns))) (ht : items dt = some (encS ts)) (ha : ∀ a ∈ ts, a ∈ ns) : F_accepts [encR r, dn, dt] = .ok (.bl (r.a (r.run ns 0 ts))) := by
  unfold F_accepts g_accepts
  have e1 : fldD [("Rule" : Str)] "accepting" (encR r) = .ok (encA r.acc) := by rfl
  have e2 : ixL (encB r.acc) (r.run ns 0 ts : Nat) = .ok (.bl (r.a (r.run ns 0 ts))) := encB_ix (h.accAt (h.run_lt hk (Nat.lt_of_lt_of_le Nat.zero_lt_one h.one) ha))
  simp [e1, V_after h hk g hn ht ha, encA, e2]
end
end Lw

set_option Elab.async false
set_option linter.all false
set_option maxRecDepth 100000
set_option maxHeartbeats 4000000
namespace Lw
open Fx
open PySem (Str)
open PySem.PyData (strOk)
def RD.Reach (r : RD) (s x : Nat) : Prop := ∀ P : Nat → Prop, P s → (∀ y z, P y → z ∈ r.nexts y → P z) → P x
structure Fd (r : RD) (n s : Nat) (f : List Nat) (j : Nat) : Prop where
  nd : f.Nodup
  lt : ∀ x ∈ f, x < n
  st : s ∈ f
  re : ∀ x ∈ f, r.Reach s x
  dn : ∀ (i : Nat) x, i < j → f[i]? = some x → ∀ y ∈ r.nexts x, y ∈ f
theorem nd_sub {α : Type} [DecidableEq α] : ∀ (l D : List α), l.Nodup → (∀ x ∈ l, x ∈ D) → l.length ≤ D.length
  | [], _, _, _ => Nat.zero_le _
  | x :: l, D, hn, hs => by
    obtain ⟨h1, h2⟩ := List.nodup_cons.mp hn
    have hx : x ∈ D := hs x List.mem_cons_self
    have ih := nd_sub l (D.erase x) h2 fun y hy => by
      have hne : y ≠ x := fun e => h1 (e ▸ hy)
      exact (List.mem_erase_of_ne hne).2 (hs y (List.mem_cons_of_mem _ hy))
    have e := List.length_erase_of_mem hx
    have hp : 0 < D.length := List.length_pos_of_mem hx
    rw [List.length_cons]
    omega
theorem nd_len {f : List Nat} {n : Nat} (nd : f.Nodup) (lt : ∀ x ∈ f, x < n) : f.length ≤ n := by
  have h := nd_sub f (List.range n) nd fun x hx => List.mem_range.mpr (lt x hx)
  simpa using h
theorem Fd.all {r : RD} {n s : Nat} {f : List Nat} {j : Nat} (F : Fd r n s f j) (h : f.length ≤ j) (x : Nat) : x ∈ f ↔ r.Reach s x := by
  refine ⟨F.re x, fun h2 => h2 (· ∈ f) F.st fun y z hy hz => ?_⟩
  obtain ⟨i, hi, e⟩ := List.getElem_of_mem hy
  exact F.dn i y (Nat.lt_of_lt_of_le hi h) (by rw [List.getElem?_eq_getElem hi, e]) z hz
theorem RD.Reach.next {r : RD} {s x y : Nat} (h : r.Reach s x) (hy : y ∈ r.nexts x) : r.Reach s y := fun P h0 hs => hs x y (h P h0 hs) hy
theorem Fd.more {r : RD} {n k s : Nat} {f g : List Nat} {j x : Nat} (ok : r.Ok n k) (F : Fd r n s f j) (hx : f[j]? = some x) (nd : (f ++ g).Nodup) (hg : ∀ y ∈ g, y ∈ r.nexts x) (hc : ∀ y ∈ r.nexts x, y ∈ f ++ g) : Fd r n s (f ++ g) (j + 1) := by
  have xm : x ∈ f := List.mem_of_getElem? hx
  have xl := F.lt x xm
  refine ⟨nd, fun y hy => ?_, List.mem_append_left _ F.st, fun y hy => ?_, fun i y hi hy z hz => ?_⟩
  · rcases List.mem_append.mp hy with h | h
    · exact F.lt y h
    · exact (ok.row _ (ok.at_ xl).2).2 y (hg y h)
  · rcases List.mem_append.mp hy with h | h
    · exact F.re y h
    · exact (F.re x xm).next (hg y h)
  · have hj : j < f.length := (List.getElem?_eq_some_iff.mp hx).1
    rw [List.getElem?_append_left (by omega)] at hy
    by_cases e : i = j
    · subst e
      rw [hx] at hy
      cases hy
      exact hc z hz
    · exact List.mem_append_left _ (F.dn i y (by omega) hy z hz)
def grow (f : List Nat) : List Nat → List Nat
  | [] => f
  | x :: xs => if x ∈ f then grow f xs else grow (f ++ [x]) xs
theorem grow_spec : ∀ (xs f : List Nat), f.Nodup → ∃ g, grow f xs = f ++ g ∧ (f ++ g).Nodup ∧ (∀ y ∈ g, y ∈ xs) ∧ ∀ y ∈ xs, y ∈ f ++ g
  | [], f, h => ⟨[], by simp [grow], by simpa using h, by simp, by simp⟩
  | x :: xs, f, h => by
    unfold grow
    by_cases hx : x ∈ f
    · rw [if_pos hx]
      obtain ⟨g, h1, h2, h3, h4⟩ := grow_spec xs f h
      refine ⟨g, h1, h2, fun y hy => List.mem_cons_of_mem _ (h3 y hy), fun y hy => ?_⟩
      rcases List.mem_cons.mp hy with e | hy
      · rw [e]; exact List.mem_append_left _ hx
      · exact h4 y hy
    · rw [if_neg hx]
      have hn : (f ++ [x]).Nodup := by
        rw [List.nodup_append]
        refine ⟨h, by simp, fun a ha b hb e => ?_⟩
        rw [List.mem_singleton] at hb
        rw [e, hb] at ha
        exact hx ha
      obtain ⟨g, h1, h2, h3, h4⟩ := grow_spec xs (f ++ [x]) hn
      refine ⟨x :: g, by rw [h1]; simp, by simpa using h2, fun y hy => ?_, fun y hy => ?_⟩
      · rcases List.mem_cons.mp hy with e | hy
        · rw [e]; exact List.mem_cons_self
        · exact List.mem_cons_of_mem _ (h3 y hy)
      · rcases List.mem_cons.mp hy with e | hy
        · rw [e]; simp
        · simpa using h4 y hy
theorem inB_nats (i : Nat) (f : List Nat) : inB (.int i) (.lst (encI f)) = some (decide (i ∈ f)) := by
  have e : encI f = (f.map fun (e : Nat) => (e : Int)).map D.int := by simp [encI]
  rw [e, inB_ints]
  congr 1
  simp only [List.mem_map, decide_eq_decide]
  exact ⟨fun ⟨a, h, e⟩ => by have : a = i := by omega
                             rw [← this]; exact h, fun h => ⟨i, h, rfl⟩⟩
theorem loop_grow (r s at_ : D) : ∀ (xs f : List Nat) (o : Sl), f.length + xs.length ≤ 1000 → ∃ o', forL (.one 4) (iff (tst (bi ninD (vo 4) (vo 2))) (app 2 (vr 4)) sNx) (encI xs) [.sh r, .sh s, .ow (.lst (encI f)), .sh at_, o] = .ok (.nx [.sh r, .sh s, .ow (.lst (encI (grow f xs))), .sh at_, o'])
  | [], f, o, _ => ⟨o, rfl⟩
  | x :: xs, f, o, h => by
    simp only [List.length_cons] at h
    by_cases hx : x ∈ f
    · obtain ⟨o', ih⟩ := loop_grow r s at_ xs f (.sh (.int (x : Nat))) (by omega)
      refine ⟨o', ?_⟩
      rw [encI_cons, forL_step (bindT_one _ _ _)]
      simp [ninD_of (inB_nats x f), hx]
      rw [ih]
      simp [grow, hx]
    · obtain ⟨o', ih⟩ := loop_grow r s at_ xs (f ++ [x]) (.sh (.int (x : Nat))) (by simp; omega)
      refine ⟨o', ?_⟩
      rw [encI_cons, forL_step (bindT_one _ _ _)]
      have hl : (encI f).length ≤ 1000000 := by simp; omega
      simp [ninD_of (inB_nats x f), hx, appR_ok hl]
      have e : encI f ++ [.int (x : Nat)] = encI (f ++ [x]) := by simp [encI]
      rw [e, ih]
      simp [grow, hx]
theorem V_from {r : RD} {n k s : Nat} (ok : r.Ok n k) (hs : s < n) (hk : k ≤ 100) : ∃ f, F_states_from [encR r, .int (s : Nat)] = .ok (.lst (encI f)) ∧ (∀ x, x ∈ f ↔ r.Reach s x) ∧ (∀ x ∈ f, x < n) ∧ f.length ≤ n := by
  have key := wh_inv (t := tst (bi (cmpD fun i j => decide (i < j)) (vo 3) (un lenD (vo 2)))) (b := sq (fr (.one 4) (itm (bi ixD (un (fldD [("Rule" : Str)] "moves") (vo 0)) (bi ixD (vo 2) (vo 3)))) (iff (tst (bi ninD (vo 4) (vo 2))) (app 2 (vr 4)) sNx))
    (augA 3 (cst (.int 1)))) (fun m ρ => ∃ f j o, ρ = [.sh (encR r), .sh (.int (s : Nat)), .ow (.lst (encI f)), .sh (.int (j : Nat)), o] ∧ Fd r n s f j ∧ m = n - j) (fun m ρ hI => by
      obtain ⟨f, j, o, rfl, F, rfl⟩ := hI
      by_cases hj : j < f.length
      · right
        have hn := nd_len F.nd F.lt
        have hx : f[j]? = some f[j] := List.getElem?_eq_getElem hj
        have xl : f[j] < n := F.lt _ (List.getElem_mem hj)
        obtain ⟨g, h1, h2, h3, h4⟩ := grow_spec (r.nexts f[j]) f F.nd
        have e1 : fldD [("Rule" : Str)] "moves" (encR r) = .ok (encM r.mv) := by rfl
        have e2 : ixL (encI f) (j : Nat) = .ok (.int (f[j] : Nat)) := encI_ix hx
        have e3 : ixL (r.mv.map encRow) (f[j] : Nat) = .ok (encRow (r.nexts f[j])) := ixL_map (ok.at_ xl).1
        obtain ⟨o', e4⟩ := loop_grow (encR r) (.int (s : Nat)) (.int (j : Nat)) (r.nexts f[j]) f o (by
          rw [(ok.row _ (ok.at_ xl).2).1]
          have := ok.six
          omega)
        refine ⟨by simp [hj], [.sh (encR r), .sh (.int (s : Nat)), .ow (.lst (encI (f ++ g))), .sh (.int ((j + 1 : Nat) : Int)), o'], n - (j + 1), by omega, .inl ?_, f ++ g, j + 1, o', rfl, F.more ok hx h2 h3 h4, rfl⟩
        simp [e1, e2, encM, e3, encRow]
        rw [e4, h1]
        simp only [contS_nx]
        rw [augA_ok (m := (j : Int)) (n := 1) (by simp) (by simp)]
        simp
      · left
        simp [hj]) (m := n - 0) (ρ := [.sh (encR r), .sh (.int (s : Nat)), .ow (.lst (encI [s])), .sh (.int ((0 : Nat) : Int)), .no])
      ⟨[s], 0, .no, rfl, ⟨by simp, by simp [hs], by simp, fun x hx => by simp at hx; subst hx; exact fun P h _ => h, fun i x hi => by omega⟩, rfl⟩
  obtain ⟨ρ', m', h1, ⟨f, j, o, rfl, F, rfl⟩, h3⟩ := key
  have hj : f.length ≤ j := by
    simp at h3
    exact h3
  refine ⟨f, ?_, F.all hj, F.lt, nd_len F.nd F.lt⟩
  unfold F_states_from g_states_from
  simp [chk, sizeLine_val]
  have e0 : encI [s] = [D.int (s : Nat)] := rfl
  rw [e0] at h1
  have e1 : ((0 : Nat) : Int) = 0 := rfl
  rw [e1] at h1
  rw [h1]
  simp
end Lw

set_option Elab.async false
set_option linter.all false
set_option maxRecDepth 100000
set_option maxHeartbeats 4000000
namespace Lw
open Fx
open PySem (Str)
open PySem.PyData (strOk)
def dd {α : Type} [DecidableEq α] (pre : List α) : List α → List α
  | [] => []
  | x :: xs => if x ∈ pre then dd (pre ++ [x]) xs else x :: dd (pre ++ [x]) xs
theorem dd_spec {α : Type} [DecidableEq α] : ∀ (suf pre : List α), (dd pre suf).Nodup ∧ (∀ y ∈ dd pre suf, y ∉ pre ∧ y ∈ suf) ∧ ∀ y ∈ suf, y ∈ pre ∨ y ∈ dd pre suf
  | [], pre => ⟨by simp [dd], by simp [dd], by simp⟩
  | x :: xs, pre => by
    obtain ⟨h1, h2, h3⟩ := dd_spec xs (pre ++ [x])
    unfold dd
    by_cases hx : x ∈ pre
    · rw [if_pos hx]
      refine ⟨h1, fun y hy => ?_, fun y hy => ?_⟩
      · obtain ⟨a, b⟩ := h2 y hy
        exact ⟨fun z => a (List.mem_append_left _ z), List.mem_cons_of_mem _ b⟩
      · rcases List.mem_cons.mp hy with e | hy
        · exact .inl (e ▸ hx)
        · rcases h3 y hy with z | z
          · rcases List.mem_append.mp z with z | z
            · exact .inl z
            · rw [List.mem_singleton] at z; exact .inl (z ▸ hx)
          · exact .inr z
    · rw [if_neg hx]
      refine ⟨List.nodup_cons.mpr ⟨fun z => (h2 x z).1 (by simp), h1⟩, fun y hy => ?_, fun y hy => ?_⟩
      · rcases List.mem_cons.mp hy with e | hy
        · rw [e]; exact ⟨hx, List.mem_cons_self⟩
        · obtain ⟨a, b⟩ := h2 y hy
          exact ⟨fun z => a (List.mem_append_left _ z), List.mem_cons_of_mem _ b⟩
      · rcases List.mem_cons.mp hy with e | hy
        · rw [e]; exact .inr List.mem_cons_self
        · rcases h3 y hy with z | z
          · rcases List.mem_append.mp z with z | z
            · exact .inl z
            · rw [List.mem_singleton] at z; rw [z]; exact .inr List.mem_cons_self
          · exact .inr (List.mem_cons_of_mem _ z)
theorem dd_append {α : Type} [DecidableEq α] (g : List α) : ∀ (f pre : List α), (pre ++ f).Nodup → dd pre (f ++ g) = f ++ dd (pre ++ f) g
  | [], pre, _ => by simp
  | x :: f, pre, h => by
    have hx : x ∉ pre := fun z => by
      rw [List.nodup_append] at h
      exact h.2.2 x z x List.mem_cons_self rfl
    rw [List.cons_append]
    show (if x ∈ pre then dd (pre ++ [x]) (f ++ g) else x :: dd (pre ++ [x]) (f ++ g)) = _
    rw [if_neg hx, dd_append g f (pre ++ [x]) (by simpa using h)]
    simp
theorem dd_filter {α : Type} [DecidableEq α] (d : α) : ∀ (suf pre : List α), ((List.range suf.length).filter (fun i => decide (suf.getD i d ∉ pre ++ suf.take i))).map (fun i => suf.getD i d) = dd pre suf
  | [], pre => by simp [dd]
  | x :: xs, pre => by
    have ih := dd_filter d xs (pre ++ [x])
    rw [List.length_cons, List.range_succ_eq_map, List.filter_cons]
    unfold dd
    have e : ((List.map Nat.succ (List.range xs.length)).filter (fun i => decide ((x :: xs).getD i d ∉ pre ++ (x :: xs).take i))).map (fun i => (x :: xs).getD i d) = dd (pre ++ [x]) xs := by
      rw [List.filter_map, List.map_map, ← ih]
      congr 1
      congr 1
      funext i
      simp
    by_cases hx : x ∈ pre
    · simp only [List.getD_cons_zero, List.take_zero, List.append_nil, hx, not_true_eq_false, decide_false, Bool.false_eq_true, if_false, if_true]
      exact e
    · simp only [List.getD_cons_zero, List.take_zero, List.append_nil, hx, not_false_eq_true, decide_true, if_true, if_false, List.map_cons]
      rw [e]
theorem cutD_take (ds : List D) (k : Nat) (h : k ≤ ds.length) : cutD ds none (some (k : Int)) = ds.take k := by
  unfold cutD
  rw [show HT.sIx ds.length 0 none = 0 from rfl, show HT.sIx ds.length ds.length (some (k : Int)) = min k ds.length from HT.sIx_nat _ _ _]
  simp [Nat.min_eq_left h]
theorem cutD_drop (ds : List D) (k : Nat) (h : k ≤ ds.length) : cutD ds (some (k : Int)) none = ds.drop k := by
  unfold cutD
  rw [show HT.sIx ds.length ds.length none = ds.length from rfl, show HT.sIx ds.length 0 (some (k : Int)) = min k ds.length from HT.sIx_nat _ _ _]
  simp only [Nat.min_eq_left h]
  exact List.take_of_length_le (by simp)
theorem rngL_nat (n : Nat) : rngL 0 n = (List.range n).map fun (i : Nat) => D.int (i : Int) := by simp [rngL]

end Lw

set_option Elab.async false
set_option linter.all false
set_option maxRecDepth 100000
set_option maxHeartbeats 4000000
namespace Lw
open Fx
open PySem (Str)
open PySem.PyData (strOk)
theorem Fd.skip {r : RD} {n s j : Nat} {f : List Nat} (F : Fd r n s f j) (h : f.length ≤ j) : Fd r n s f (j + 1) :=
  ⟨F.nd, F.lt, F.st, F.re, fun i x _ hx => F.dn i x (Nat.lt_of_lt_of_le (List.getElem?_eq_some_iff.mp hx).1 h) hx⟩
noncomputable def vd (r : RD) (s : Nat) : Str :=
  open Classical in
  if ∀ x, r.Reach s x → r.a x = true then "always" else if ∀ x, r.Reach s x → r.a x = false then "never" else if r.a s then "yes" else "no"
theorem all_iff {r : RD} {f : List Nat} {s : Nat} (hf : ∀ x, x ∈ f ↔ r.Reach s x) : (f.all fun x => r.a x) = true ↔ ∀ x, r.Reach s x → r.a x = true := by
  rw [List.all_eq_true]
  exact ⟨fun h x hx => h x ((hf x).mpr hx), fun h x hx => h x ((hf x).mp hx)⟩
theorem any_iff {r : RD} {f : List Nat} {s : Nat} (hf : ∀ x, x ∈ f ↔ r.Reach s x) : (f.any fun x => r.a x) = false ↔ ∀ x, r.Reach s x → r.a x = false := by
  rw [List.any_eq_false]
  exact ⟨fun h x hx => by simpa using h x ((hf x).mpr hx), fun h x hx => by simpa using h x ((hf x).mp hx)⟩
theorem V_verdict {r : RD} {n k : Nat} {ns : List Str} (h : r.Ok n k) (hk : ns.length = k) (g : Nm ns) {dn dt : D} {ts : List Str} (hn : listD dn = .ok (.lst (encS ns))) (ht : items dt = some (encS ts)) (ha : ∀ a ∈ ts, a ∈ ns) : F_verdict [encR r, dn, dt] = .ok (.str (vd r (r.run ns 0 ts))) := by
  have hs := h.run_lt hk (s := 0) (Nat.lt_of_lt_of_le Nat.zero_lt_one h.one) ha
  have g5 := g.five
  obtain ⟨f, e1, hf, hl, fn⟩ := V_from h hs (by omega)
  have n6 := h.six
  have fl : f.length ≤ 1000000 := by omega
  have e2 : ∀ (o4 o5 : Sl), lcL (.one 5) [5] yes (bi ixD (un (fldD [("Rule" : Str)] "accepting") (vo 0)) (vo 5)) [.sh (encR r), .sh dn, .sh dt, .sh (.int (r.run ns 0 ts : Nat)), o4, o5] (encI f) = .ok (encB (f.map fun x => r.a x)) := fun o4 o5 => by
    rw [encB, List.map_map]
    refine lcL_map (f := fun (e : Nat) => D.int (e : Int)) fun x hx => ⟨_, rfl, ?_⟩
    have e4 : fldD [("Rule" : Str)] "accepting" (encR r) = .ok (encA r.acc) := rfl
    have e5 : ixL (encB r.acc) (x : Nat) = .ok (.bl (r.a x)) := encB_ix (h.accAt (hl x hx))
    simp only [bi_ap, un_ap, vo_ap, wipeE_cons, wipeE_nil, List.set_cons_succ, List.set_cons_zero, List.getElem?_cons_zero, List.getElem?_cons_succ, voR_sh, bd_ok, e4, encA, ixD_tup, e5, Function.comp]
  have e4 : fldD [("Rule" : Str)] "accepting" (encR r) = .ok (encA r.acc) := rfl
  have e5 : ixL (encB r.acc) (r.run ns 0 ts : Nat) = .ok (.bl (r.a (r.run ns 0 ts))) := encB_ix (h.accAt hs)
  have z : decide (f.length ≤ PySem.sizeLine) = true := decide_eq_true (by rw [sizeLine_val]; omega)
  unfold F_verdict g_verdict
  simp [V_after h hk g hn ht ha, e1, z, e2]
  unfold vd
  have a1 := all_iff hf
  have a2 := any_iff hf
  by_cases c1 : ∀ x, r.Reach (r.run ns 0 ts) x → r.a x = true
  · rw [a1.mpr c1, if_pos c1]
    simp
  · have b1 : (f.all fun x => r.a x) = false := by
      rw [← Bool.not_eq_true]; exact fun z => c1 (a1.mp z)
    rw [b1, if_neg c1]
    by_cases c2 : ∀ x, r.Reach (r.run ns 0 ts) x → r.a x = false
    · rw [if_pos c2]
      simp [a2.mpr c2]
    · have b2 : (f.any fun x => r.a x) = true := by
        rw [← Bool.not_eq_false]; exact fun z => c2 (a2.mp z)
      rw [if_neg c2]
      simp [b2, e4, encA, e5]
      cases r.a (r.run ns 0 ts) <;> simp

end Lw

set_option Elab.async false
set_option linter.all false
set_option maxRecDepth 100000
set_option maxHeartbeats 4000000
namespace Lw
open Fx
open PySem (Str)
open PySem.PyData (strOk)
theorem first_ix {ns : List Str} {a : Str} (ha : a ∈ ns) : ((List.range ns.length).filter fun i => ns.getD i "" == a)[0]? = some (ns.idxOf a) := by
  have hl := List.idxOf_lt_length_of_mem ha
  rw [← List.head?_eq_getElem?, List.head?_filter, List.find?_range_eq_some]
  refine ⟨by simp [hl], List.mem_range.mpr hl, fun j hj => ?_⟩
  have h1 := List.not_of_lt_findIdx (p := fun x => x == a) (xs := ns) (i := j) (by simpa [List.idxOf] using hj)
  have hj2 : j < ns.length := by omega
  simp [hj2] at h1 ⊢
  exact h1
theorem loop_state {r : RD} {n k : Nat} {ns : List Str} (h : r.Ok n k) (hk : ns.length = k) (g : Nm ns) {dt : D} : ∀ (ts : List Str) (s : Nat) (o : Sl), s < n → (∀ a ∈ ts, a ∈ ns) → ∃ o', forL (.one 4) (asg 3 (bi ixD (bi ixD (bi ixD (vo 0) (cst (.int 1))) (vo 3)) (bi ixD (lc (.one 5) [5] (rng1 (aC (un lenD (vo 1)) aN)) (tst (bi eqD (bi ixD (vo 1) (vo 5)) (vo 4))) (vr 5)) (cst (.int 0))))) (encS ts)
    [.sh (encL r), .sh (.lst (encS ns)), .sh dt, .sh (.int (s : Nat)), o, .no] = .ok (.nx [.sh (encL r), .sh (.lst (encS ns)), .sh dt, .sh (.int (r.run ns s ts : Nat)), o', .no])
  | [], s, o, _, _ => ⟨o, rfl⟩
  | a :: ts, s, o, hs, ha => by
    have ha1 := ha a List.mem_cons_self
    obtain ⟨h1, h2⟩ := h.stepAt hk hs ha1
    obtain ⟨o', ih⟩ := loop_state h hk g (dt := dt) ts (r.step ns s a) (.sh (.str a)) h2 fun b hb => ha b (List.mem_cons_of_mem _ hb)
    refine ⟨o', ?_⟩
    have g5 := g.five
    rw [encS_cons, forL_step (bindT_one _ _ _)]
    have e1 : ixD (encL r) (.int 1) = .ok (encM r.mv) := by rfl
    have e2 : ixD (encM r.mv) (.int (s : Nat)) = .ok (encRow (r.nexts s)) := by
      show ixL (r.mv.map encRow) (s : Int) = _
      exact ixL_map (h.at_ hs).1
    have e4 : ixD (encRow (r.nexts s)) (.int (ns.idxOf a : Nat)) = .ok (.int (r.step ns s a : Nat)) := encI_ix h1
    have e5 : rng1R [.int (ns.length : Nat)] = .ok (encI (List.range ns.length)) := by
      rw [rng1R_nat (by omega), rngL_nat]; rfl
    have e6 : lcL (.one 5) [5] (tst (bi eqD (bi ixD (vo 1) (vo 5)) (vo 4))) (vr 5) [.sh (encL r), .sh (.lst (encS ns)), .sh dt, .sh (.int (s : Nat)), .sh (.str a), .no] (encI (List.range ns.length)) = .ok (encI ((List.range ns.length).filter fun i => ns.getD i "" == a)) := by
      refine lcL_filter (f := fun (e : Nat) => D.int (e : Int)) (h := fun (e : Nat) => D.int (e : Int)) (p := fun i => ns.getD i "" == a) fun i hi => ⟨_, rfl, ?_, fun _ => by simp⟩
      have hi := List.mem_range.mp hi
      have hg : ns[i]? = some (ns.getD i "") := by simp [hi]
      have e7 : ixL (encS ns) (i : Nat) = .ok (.str (ns.getD i "")) := encS_ix hg
      have e8 : eqD (.str (ns.getD i "")) (.str a) = .ok (.bl (ns.getD i "" == a)) := by
        rw [eqD_val (Pn.str 0 (g.ok _ (List.mem_of_getElem? hg))) (Pn.str 0 (g.ok a ha1)), eqv_str]
      simp only [tst_ap, bi_ap, vo_ap, wipeE_cons, wipeE_nil, List.set_cons_succ, List.set_cons_zero, List.getElem?_cons_zero, List.getElem?_cons_succ, voR_sh, bd_ok, ixD_lst, e7, e8, tstR_bl]
    have e7 : ixL (encI ((List.range ns.length).filter fun i => ns.getD i "" == a)) 0 = .ok (.int (ns.idxOf a : Nat)) := encI_ix (i := 0) (first_ix ha1)
    have z : (List.range ns.length).length ≤ 16777216 := by simp; omega
    simp only [asg_ap, bi_ap, vo_ap, un_ap, cst_ap, lc_ap, rng1_ap, aC_ap, aN_ap, lenD_lst, encS_len, encI_len, List.set_cons_succ, List.set_cons_zero, List.getElem?_cons_zero, List.getElem?_cons_succ, voR_sh, bd_ok, e1, e2, e5, sizeLine_val, z, decide_true, chk_true, e6, ixD_lst, e7, e4, asgR_ok, goOn_nx]
    rw [ih]
    rfl
theorem V_state {r : RD} {n k : Nat} {ns : List Str} (h : r.Ok n k) (hk : ns.length = k) (g : Nm ns) {ts : List Str} (ha : ∀ a ∈ ts, a ∈ ns) : F__law_state [encL r, .lst (encS ns), .lst (encS ts)] = .ok (.int (r.run ns 0 ts : Nat)) := by
  unfold F__law_state g__law_state
  obtain ⟨o, e⟩ := loop_state h hk g (dt := .lst (encS ts)) ts 0 .no (Nat.lt_of_lt_of_le Nat.zero_lt_one h.one) ha
  have e' : ((0 : Nat) : Int) = 0 := rfl
  rw [e'] at e
  simp
  rw [e]
  simp
theorem V_init {r : RD} {d1 d2 : D} {f : List Nat → D} (h1 : tupleD d1 = .ok (encA r.acc)) (h2 : items d2 = some (r.mv.map f)) (h3 : ∀ x ∈ r.mv, tupleD (f x) = .ok (encRow x)) (hl : r.mv.length ≤ 100) : F_Rule___init__ [d1, d2] = .ok (encR r) := by
  unfold F_Rule___init__ g_Rule___init__
  have e1 : ∀ ρ : En, (wipeE ρ [3]).length = 4 → True := fun _ _ => trivial
  have e6 : ∀ (s0 s1 s2 : Sl), lcL (.one 3) [3] yes (un tupleD (vo 3)) [s0, s1, s2, .no] (r.mv.map f) = .ok (r.mv.map encRow) := fun s0 s1 s2 => by
    refine lcL_map fun x hx => ⟨_, rfl, ?_⟩
    simp [h3 x hx]
  have z : r.mv.length ≤ 16777216 := by omega
  simp [h1, chk, sizeLine_val, h2, z, e6]
  rfl
end Lw

set_option Elab.async false
set_option linter.all false
set_option maxRecDepth 100000
set_option maxHeartbeats 4000000
namespace Lw
open Fx
open PySem (Str)
open PySem.PyData (strOk)
open L2 (cutS)
structure Gd (m : Nat) (w : Str) : Prop where
  ok : strOk w = true
  len : w.length ≤ m
theorem letters_ok : strOk ("abcdefghijklmnopqrstuvwxyz" : Str) = true := by decide +kernel
theorem letters_len : ("abcdefghijklmnopqrstuvwxyz" : Str).length = 26 := by decide +kernel
theorem letter (i : Int) : ∃ c, ixD (.str "abcdefghijklmnopqrstuvwxyz") (.int (i % 26)) = .ok (.str c) ∧ Gd 1 c := by
  obtain ⟨c, h1, h2⟩ := ixD_str (z := "abcdefghijklmnopqrstuvwxyz") (i := i % 26) (by rw [letters_len]; omega) (by omega) (by rw [letters_len]; omega)
  exact ⟨_, h1, h2 letters_ok, Nat.le_refl 1⟩
theorem Gd.add {m n : Nat} {a b : Str} (ha : Gd m a) (hb : Gd n b) (h : m + n ≤ 1000) : addD (.str a) (.str b) = .ok (.str (a ++ b)) ∧ Gd (m + n) (a ++ b) := by
  have h1 := ha.len
  have h2 := hb.len
  exact ⟨addD_strs (by omega), strOk_append ha.ok hb.ok, by rw [len_append]; omega⟩
theorem Gd.mono {m n : Nat} {a : Str} (ha : Gd m a) (h : m ≤ n) : Gd n a := ⟨ha.ok, Nat.le_trans ha.len h⟩
theorem Gd.cut {m : Nat} {a : Str} (ha : Gd m a) (lo hi : Option Int) (h : m ≤ 1000) : slD (.str a) lo hi = .ok (.str (cutS a lo hi)) ∧ Gd m (cutS a lo hi) := by
  have h1 := ha.len
  exact ⟨slD_strs (by omega), strOk_cut _ _ ha.ok, Nat.le_trans (len_cut a lo hi) h1⟩
theorem eqD_ints (i j : Int) : eqD (.int i) (.int j) = .ok (.bl (decide (i = j))) := by rw [eqD_val (Pn.int 0 i) (Pn.int 0 j), eqv_int, Bool.beq_eq_decide_eq]
theorem neD_ints (i j : Int) : neD (.int i) (.int j) = .ok (.bl (!decide (i = j))) := by rw [neD_val (Pn.int 0 i) (Pn.int 0 j), eqv_int, Bool.beq_eq_decide_eq]
theorem V_word (i : Int) : ∃ w, F__law_word [.int i] = .ok (.str w) ∧ Gd 5 w := by
  obtain ⟨a, ea, ga⟩ := letter i
  obtain ⟨b, eb, gb⟩ := letter (i / 3)
  obtain ⟨c, ec, gc⟩ := letter (i / 5)
  obtain ⟨d, ed, gd⟩ := letter (i / 11)
  obtain ⟨e, ee, ge⟩ := letter (i / 2)
  obtain ⟨w1, h1, k1⟩ : ∃ w1, iff (tst (bi (cmpD fun i j => decide (j < i)) (bi modD (bi fdivD (vo 0) (cst (.int 26))) (cst (.int 3))) (cst (.int 0)))) (asg 2 (bi addD (vo 2) (bi ixD (vo 1) (bi modD (bi fdivD (vo 0) (cst (.int 3))) (cst (.int 26)))))) sNx
      [.sh (.int i), .sh (.str "abcdefghijklmnopqrstuvwxyz"), .sh (.str a)] = .ok (.nx [.sh (.int i), .sh (.str "abcdefghijklmnopqrstuvwxyz"), .sh (.str w1)]) ∧ Gd 2 w1 := by
    by_cases hc : 0 < i / 26 % 3
    · obtain ⟨z1, z2⟩ := ga.add gb (by omega)
      exact ⟨_, by simp [chk, hc, eb, z1], z2⟩
    · exact ⟨a, by simp [chk, hc], ga.mono (by omega)⟩
  obtain ⟨w2, h2, k2⟩ : ∃ w2, iff (tst (bi eqD (bi modD (bi fdivD (vo 0) (cst (.int 26))) (cst (.int 3))) (cst (.int 2)))) (asg 2 (bi addD (bi addD (bi addD (vo 2) (bi ixD (vo 1) (bi modD (bi fdivD (vo 0) (cst (.int 5))) (cst (.int 26))))) (bi ixD (vo 1) (bi modD (bi fdivD (vo 0) (cst (.int 11))) (cst (.int 26))))) (bi ixD (vo 1) (bi modD (bi fdivD (vo 0) (cst (.int 2))) (cst (.int 26)))))) sNx
      [.sh (.int i), .sh (.str "abcdefghijklmnopqrstuvwxyz"), .sh (.str w1)] = .ok (.nx [.sh (.int i), .sh (.str "abcdefghijklmnopqrstuvwxyz"), .sh (.str w2)]) ∧ Gd 5 w2 := by
    by_cases hc : i / 26 % 3 = 2
    · obtain ⟨z1, z2⟩ := k1.add gc (by omega)
      obtain ⟨z3, z4⟩ := z2.add gd (by omega)
      obtain ⟨z5, z6⟩ := z4.add ge (by omega)
      exact ⟨_, by simp [chk, eqD_ints, hc, ec, ed, ee, z1, z3, z5], z6⟩
    · exact ⟨w1, by simp [chk, eqD_ints, hc], k1.mono (by omega)⟩
  refine ⟨w2, ?_, k2⟩
  unfold F__law_word g__law_word
  simp [chk, ea]
  simp at h1 h2
  rw [h1]
  simp
  rw [h2]
  simp

theorem counts (i : Int) : ∃ n : Nat, ixL [D.int 1, .int 2, .int 2, .int 3, .int 3, .int 4, .int 2, .int 3, .int 5] (i % 9) = .ok (.int (n : Nat)) ∧ 1 ≤ n ∧ n ≤ 5 := by
  have h : i % 9 = 0 ∨ i % 9 = 1 ∨ i % 9 = 2 ∨ i % 9 = 3 ∨ i % 9 = 4 ∨ i % 9 = 5 ∨ i % 9 = 6 ∨ i % 9 = 7 ∨ i % 9 = 8 := by omega
  rcases h with h | h | h | h | h | h | h | h | h <;> rw [h] <;> first
    | exact ⟨1, rfl, by omega, by omega⟩
    | exact ⟨2, rfl, by omega, by omega⟩
    | exact ⟨3, rfl, by omega, by omega⟩
    | exact ⟨4, rfl, by omega, by omega⟩
    | exact ⟨5, rfl, by omega, by omega⟩
structure NmB (m : Nat) (ns : List Str) : Prop where
  len : ns.length ≤ m
  nd : ns.Nodup
  ok : ∀ x ∈ ns, Gd 13 x
theorem lit8 : Gd 8 ("abcdefgh" : Str) := ⟨by decide +kernel, by decide +kernel⟩
theorem litq : Gd 1 ("q" : Str) := ⟨by decide +kernel, by decide +kernel⟩
noncomputable abbrev names_body : En → Oc Res := (sq (asg 4 (cal F__law_word 1 [] (aC (bi ixD (vo 1) (vo 3)) aN)))
  (sq (iff (tst (bi eqD (bi modD (bi fdivD (bi ixD (vo 1) (vo 3)) (cst (.int 50))) (cst (.int 6))) (cst (.int 5)))) (asg 4 (slc (bi addD (vo 4) (cst (.str "abcdefgh"))) none (some (bi addD (cst (.int 7)) (bi modD (bi ixD (vo 1) (vo 3)) (cst (.int 2))))))) sNx)
  (sq (iff (tst (bi inD (vo 4) (vo 2))) (asg 4 (slc (bi addD (vo 4) (cst (.str "q"))) (some (un negD (cst (.int 8)))) none)) sNx)
  (iff (tst (bi ninD (vo 4) (vo 2))) (app 2 (vr 4)) sNx))))
theorem names_turn {c : D} {row : List Int} {j : Nat} {x : Int} (hx : row[j]? = some x) {m : Nat} {ns : List Str} (N : NmB m ns) (hm : m ≤ 100) (o4 : Sl) : ∃ ns' o4', names_body [.sh c, .sh (.lst (row.map .int)), .ow (.lst (encS ns)), .sh (.int (j : Nat)), o4] = .ok (.nx [.sh c, .sh (.lst (row.map .int)), .ow (.lst (encS ns')), .sh (.int (j : Nat)), o4']) ∧ NmB (m + 1) ns' ∧ (ns = [] → ns' ≠ []) ∧ (ns ≠ [] → ns' ≠ []) := by
  have ex : ixL (row.map D.int) (j : Nat) = .ok (.int x) := ixL_map hx
  obtain ⟨w, ew, gw⟩ := V_word x
  obtain ⟨w1, h1, k1⟩ : ∃ w1, iff (tst (bi eqD (bi modD (bi fdivD (bi ixD (vo 1) (vo 3)) (cst (.int 50))) (cst (.int 6))) (cst (.int 5)))) (asg 4 (slc (bi addD (vo 4) (cst (.str "abcdefgh"))) none (some (bi addD (cst (.int 7)) (bi modD (bi ixD (vo 1) (vo 3)) (cst (.int 2))))))) sNx [.sh c, .sh (.lst (row.map .int)), .ow (.lst (encS ns)), .sh (.int (j : Nat)), .sh (.str w)] = .ok (.nx [.sh c, .sh (.lst (row.map .int)), .ow (.lst (encS ns)), .sh (.int (j : Nat)), .sh (.str w1)]) ∧ Gd 13 w1 := by
    by_cases hc : x / 50 % 6 = 5
    · obtain ⟨z1, z2⟩ := gw.add lit8 (by omega)
      obtain ⟨z3, z4⟩ := z2.cut none (some (7 + x % 2)) (by omega)
      exact ⟨_, by simp [chk, ex, eqD_ints, hc, z1, ← slD_str, z3], z4⟩
    · exact ⟨w, by simp [chk, ex, eqD_ints, hc], gw.mono (by omega)⟩
  have no : ∀ y ∈ ns, strOk y = true := fun y hy => (N.ok y hy).ok
  have i1 : inD (.str w1) (.lst (encS ns)) = .ok (.bl (decide (w1 ∈ ns))) := inD_of (inB_strs k1.ok no)
  obtain ⟨w2, h2, k2⟩ : ∃ w2, iff (tst (bi inD (vo 4) (vo 2))) (asg 4 (slc (bi addD (vo 4) (cst (.str "q"))) (some (un negD (cst (.int 8)))) none)) sNx [.sh c, .sh (.lst (row.map .int)), .ow (.lst (encS ns)), .sh (.int (j : Nat)), .sh (.str w1)] = .ok (.nx [.sh c, .sh (.lst (row.map .int)), .ow (.lst (encS ns)), .sh (.int (j : Nat)), .sh (.str w2)]) ∧ Gd 14 w2 ∧ Gd 13 w2 := by
    by_cases hc : w1 ∈ ns
    · obtain ⟨z1, z2⟩ := k1.add litq (by omega)
      obtain ⟨z3, z4⟩ := z2.cut (some (-8)) none (by omega)
      have z5 : Gd 13 (cutS (w1 ++ "q") (some (-8)) none) := ⟨z4.ok, by
        have hl := z2.len
        unfold L2.cutS
        show (List.toArray _).size ≤ 13
        simp only [List.size_toArray, List.length_take, List.length_drop, Array.length_toList]
        have e1 : HT.sIx (w1 ++ ("q" : Str)).length (w1 ++ ("q" : Str)).length none = (w1 ++ ("q" : Str)).length := rfl
        have e2 : (w1 ++ ("q" : Str)).length - HT.sIx (w1 ++ ("q" : Str)).length 0 (some (-8)) ≤ 13 := by
          unfold HT.sIx
          simp only
          split <;> omega
        rw [e1]
        omega⟩
      exact ⟨_, by simp [chk, i1, hc, z1, ← slD_str, z3], z4, z5⟩
    · exact ⟨w1, by simp [chk, i1, hc], k1.mono (by omega), k1⟩
  have i2 : ninD (.str w2) (.lst (encS ns)) = .ok (.bl (!decide (w2 ∈ ns))) := ninD_of (inB_strs k2.2.ok no)
  have nl : (encS ns).length ≤ 1000000 := by have := N.len; simp; omega
  have h0 : asg 4 (cal F__law_word 1 [] (aC (bi ixD (vo 1) (vo 3)) aN)) [.sh c, .sh (.lst (row.map .int)), .ow (.lst (encS ns)), .sh (.int (j : Nat)), o4] = .ok (.nx [.sh c, .sh (.lst (row.map .int)), .ow (.lst (encS ns)), .sh (.int (j : Nat)), .sh (.str w)]) := by simp [ex, ew]
  by_cases hc : w2 ∈ ns
  · refine ⟨ns, .sh (.str w2), ?_, ⟨Nat.le_succ_of_le N.len, N.nd, N.ok⟩, fun e => ?_, fun e => e⟩
    · rw [names_body, sq_ap, h0, contS_nx, sq_ap, h1, contS_nx, sq_ap, h2, contS_nx]
      simp [i2, hc]
    · subst e
      cases hc
  · refine ⟨ns ++ [w2], .sh (.str w2), ?_, ⟨by have := N.len; simp; omega, ?_, fun y hy => ?_⟩, fun _ => by simp, fun _ => by simp⟩
    · rw [names_body, sq_ap, h0, contS_nx, sq_ap, h1, contS_nx, sq_ap, h2, contS_nx]
      simp [i2, hc, appR_ok nl]
      simp [encS]
    · rw [List.nodup_append]
      refine ⟨N.nd, by simp, fun a ha b hb e => ?_⟩
      rw [List.mem_singleton] at hb
      rw [e, hb] at ha
      exact hc ha
    · rcases List.mem_append.mp hy with h | h
      · exact N.ok y h
      · rw [List.mem_singleton] at h
        rw [h]
        exact k2.2
theorem names_loop {c : D} {row : List Int} (hr : row.length = 6) : ∀ (m j : Nat) (ns : List Str) (o3 o4 : Sl), j + m ≤ 6 → NmB j ns → ∃ ns' o3' o4', forL (.one 3) names_body (encI (List.range' j m)) [.sh c, .sh (.lst (row.map .int)), .ow (.lst (encS ns)), o3, o4] = .ok (.nx [.sh c, .sh (.lst (row.map .int)), .ow (.lst (encS ns')), o3', o4']) ∧ NmB (j + m) ns' ∧ (ns ≠ [] → ns' ≠ []) ∧ (1 ≤ m → ns' ≠ [])
  | 0, j, ns, o3, o4, _, N => ⟨ns, o3, o4, rfl, N, fun h => h, fun h => by omega⟩
  | m + 1, j, ns, o3, o4, h, N => by
    obtain ⟨x, hx⟩ : ∃ x, row[j]? = some x := ⟨row[j]'(by omega), List.getElem?_eq_getElem (by omega)⟩
    obtain ⟨ns1, p4, e1, N1, n1, n2⟩ := names_turn (c := c) hx N (by omega) o4
    obtain ⟨ns2, p3, p5, e2, N2, n3, _⟩ := names_loop hr m (j + 1) ns1 (.sh (.int (j : Nat))) p4 (by omega) N1
    have ne1 : ns1 ≠ [] := by
      by_cases hn : ns = []
      · exact n1 hn
      · exact n2 hn
    refine ⟨ns2, p3, p5, ?_, by rw [show j + (m + 1) = j + 1 + m by omega]; exact N2, fun _ => n3 ne1, fun _ => n3 ne1⟩
    rw [List.range'_succ, encI_cons, forL_step (bindT_one _ _ _)]
    simp only [List.set_cons_succ, List.set_cons_zero]
    rw [e1, goOn_nx, e2]
theorem V_names (c : Int) : ∃ ns, F__law_names [.int c] = .ok (.lst (encS ns)) ∧ Nm ns ∧ ns.Nodup := by
  obtain ⟨x, hx⟩ : ∃ x, (row c 6)[5]? = some x := ⟨(row c 6)[5]'(by rw [row_length]; omega), List.getElem?_eq_getElem (by rw [row_length]; omega)⟩
  have ex : ixL ((row c 6).map D.int) 5 = .ok (.int x) := ixL_map (i := 5) hx
  obtain ⟨n, en, n1, n5⟩ := counts x
  obtain ⟨ns, o3, o4, e, N, _, ne⟩ := names_loop (c := .int c) (row := row c 6) (row_length c 6) n 0 [] .no .no (by omega) ⟨by simp, by simp, by simp⟩
  have er : rng1R [.int (n : Nat)] = .ok (encI (List.range' 0 n)) := by
    rw [rng1R_nat (by omega), rngL_nat, List.range_eq_range']; rfl
  refine ⟨ns, ?_, ⟨ne n1, by have := N.len; omega, fun y hy => (N.ok y hy).ok⟩, N.nd⟩
  have ev : F__law_row [.int c, .int 6] = .ok (.lst ((row c 6).map .int)) := V_row c 6 (by omega)
  unfold F__law_names g__law_names
  simp [ev, ex, chk, sizeLine_val, en, er]
  have e0 : encS [] = ([] : List D) := rfl
  rw [e0] at e
  rw [e]
  simp
end Lw

set_option Elab.async false
set_option linter.all false
set_option maxRecDepth 100000
set_option maxHeartbeats 4000000
namespace Lw
open Fx
open PySem (Str)
open PySem.PyData (strOk)
open L2 (cutS)
theorem encS_map {α : Type} (f : α → Str) (xs : List α) : encS (xs.map f) = xs.map fun x => D.str (f x) := by simp [encS, Function.comp_def]
theorem V_trace {ns : List Str} (g : Nm ns) (c : Int) (n : Nat) (hn : n ≤ 1000) : ∃ ts, F__law_trace [.lst (encS ns), .int c, .int (n : Nat)] = .ok (.lst (encS ts)) ∧ (∀ a ∈ ts, a ∈ ns) ∧ ts.length = n := by
  have gl : 0 < ns.length := List.length_pos_iff.mpr g.ne
  let f : Int → Str := fun x => ns.getD (x % ns.length).toNat ""
  have hf : ∀ x : Int, ixL (encS ns) (x % ns.length) = .ok (.str (f x)) ∧ f x ∈ ns := fun x => by
    have h1 : 0 ≤ x % (ns.length : Int) := Int.emod_nonneg _ (by omega)
    have h2 : x % (ns.length : Int) < ns.length := Int.emod_lt_of_pos _ (by omega)
    have h3 : (x % (ns.length : Int)).toNat < ns.length := by omega
    have hg : ns[(x % (ns.length : Int)).toNat]? = some (f x) := by simp [f, h3]
    refine ⟨?_, List.mem_of_getElem? hg⟩
    have := encS_ix hg
    rwa [Int.toNat_of_nonneg h1] at this
  refine ⟨(row c n).map f, ?_, fun a ha => ?_, by simp [row_length]⟩
  · have e1 : ∀ o : Sl, lcL (.one 3) [3] yes (bi ixD (vo 0) (bi modD (vo 3) (un lenD (vo 0)))) [.sh (.lst (encS ns)), .sh (.int c), .sh (.int (n : Nat)), o] ((row c n).map .int) = .ok (encS ((row c n).map f)) := fun o => by
      rw [encS_map]
      refine lcL_map fun x hx => ⟨_, rfl, ?_⟩
      simp [chk, gl, (hf x).1]
    have z : (row c n).length ≤ 16777216 := by rw [row_length]; omega
    unfold F__law_trace g__law_trace
    simp [V_row c n hn, sizeLine_val, z, e1]
  · obtain ⟨x, _, e⟩ := List.mem_map.mp ha
    rw [← e]
    exact (hf x).2
theorem rule_acc {row : List Int} {sz k : Nat} (h1 : row.length = 14) (hs : sz ≤ 6) (o1 o3 o4 o5 o6 : Sl) : ∃ acc : List Bool, acc.length = sz ∧
    lcL (.one 5) [5] yes (bi eqD (bi modD (bi fdivD (bi fdivD (bi ixD (vo 0) (cst (.int 1))) (bi powD (cst (.int 2)) (cst (.int 3)))) (bi addD (cst (.int 1)) (bi mulD (cst (.int 2)) (vo 5)))) (cst (.int 2))) (cst (.int 0)))
      [.sh (.lst (row.map .int)), o1, .sh (.int (sz : Nat)), o3, o4, o5, o6] (encI (List.range sz)) = .ok (encB acc) := by
  obtain ⟨x, hx⟩ : ∃ x, row[1]? = some x := ⟨row[1], List.getElem?_eq_getElem (by omega)⟩
  have ex : ixL (row.map D.int) 1 = .ok (.int x) := ixL_map (i := 1) hx
  refine ⟨(List.range sz).map fun (i : Nat) => decide (x / 8 / (1 + 2 * (i : Int)) % 2 = 0), by simp, ?_⟩
  rw [encB, List.map_map]
  refine lcL_map fun i hi => ⟨_, rfl, ?_⟩
  have hi := List.mem_range.mp hi
  have p1 : (0 : Int) < 1 + 2 * (i : Int) ∧ 1 + 2 * (i : Int) < 1073741824 := by omega
  simp [ex, chk, p1, eqD_ints]
theorem rule_row {row : List Int} {sz k j : Nat} (h1 : row.length = 14) (hs : sz ≤ 6) (h0 : 1 ≤ sz) (hj : j < sz) (hk : k ≤ 5) (o3 o4 o6 : Sl) : ∃ x : List Nat, x.length = k ∧ (∀ e ∈ x, e < sz) ∧
    lcL (.one 6) [6] yes (bi modD (bi fdivD (bi ixD (vo 0) (bi addD (cst (.int 2)) (bi modD (bi addD (bi mulD (vo 1) (vo 5)) (vo 6)) (cst (.int 12))))) (bi addD (cst (.int 1)) (vo 5))) (vo 2))
      [.sh (.lst (row.map .int)), .sh (.int (k : Nat)), .sh (.int (sz : Nat)), o3, o4, .sh (.int (j : Nat)), o6] (encI (List.range k)) = .ok (encI x) := by
  let f : Nat → Int := fun a => row.getD (2 + ((k : Int) * j + a) % 12).toNat 0
  have hf : ∀ a : Nat, ixL (row.map D.int) (2 + ((k : Int) * j + a) % 12) = .ok (.int (f a)) := fun a => by
    have z : (2 + ((k : Int) * j + a) % 12).toNat < row.length := by omega
    have hg : row[(2 + ((k : Int) * j + a) % 12).toNat]? = some (f a) := by simp [f, z]
    exact ixL_mapZ (by omega) hg
  refine ⟨(List.range k).map fun a => (f a / (1 + (j : Int)) % sz).toNat, by simp, fun e he => ?_, ?_⟩
  · obtain ⟨a, _, e2⟩ := List.mem_map.mp he
    have h1 : 0 ≤ f a / (1 + (j : Int)) % sz := Int.emod_nonneg _ (by omega)
    have h2 : f a / (1 + (j : Int)) % sz < sz := Int.emod_lt_of_pos _ (by omega)
    omega
  · rw [encI, encI, List.map_map]
    refine lcL_map fun a ha => ⟨_, rfl, ?_⟩
    have p1 : (0 : Int) < 1 + (j : Int) ∧ 1 + (j : Int) < 1073741824 := by omega
    have p2 : (-18446744073709551616 < (k : Int) ∧ (k : Int) < 18446744073709551616) := by omega
    have p3 : (0 : Int) < sz := by omega
    have p4 : ¬ sz = 0 := by omega
    have h1 : 0 ≤ f a / (1 + (j : Int)) % sz := Int.emod_nonneg _ (by omega)
    show _ = Oc.ok (D.int (((f a / (1 + (j : Int)) % sz).toNat : Nat) : Int))
    rw [Int.toNat_of_nonneg h1]
    simp [chk, p1, p2, p3, p4, hf a]
theorem rule_loop {row : List Int} {sz k : Nat} (h1 : row.length = 14) (hs : sz ≤ 6) (h0 : 1 ≤ sz) (hk : k ≤ 5) (o3 : Sl) : ∀ (m j : Nat) (mv : List (List Nat)) (o5 : Sl), j + m ≤ sz → mv.length ≤ j → (∀ x ∈ mv, x.length = k ∧ ∀ e ∈ x, e < sz) → ∃ (mv' : List (List Nat)) (o5' : Sl), mv'.length = mv.length + m ∧ (∀ x ∈ mv', x.length = k ∧ ∀ e ∈ x, e < sz) ∧
    forL (.one 5) (app 4 (un tupleD (lc (.one 6) [6] (rng1 (aC (vr 1) aN)) yes (bi modD (bi fdivD (bi ixD (vo 0) (bi addD (cst (.int 2)) (bi modD (bi addD (bi mulD (vo 1) (vo 5)) (vo 6)) (cst (.int 12))))) (bi addD (cst (.int 1)) (vo 5))) (vo 2)))))
      (encI (List.range' j m)) [.sh (.lst (row.map .int)), .sh (.int (k : Nat)), .sh (.int (sz : Nat)), o3, .ow (.lst (mv.map encRow)), o5, .no] = .ok (.nx [.sh (.lst (row.map .int)), .sh (.int (k : Nat)), .sh (.int (sz : Nat)), o3, .ow (.lst (mv'.map encRow)), o5', .no])
  | 0, j, mv, o5, _, _, hm => ⟨mv, o5, rfl, hm, rfl⟩
  | m + 1, j, mv, o5, hj, hl, hm => by
    obtain ⟨x, x1, x2, ex⟩ := rule_row (row := row) (k := k) h1 hs h0 (show j < sz by omega) hk o3 (.ow (.lst (mv.map encRow))) .no
    obtain ⟨mv', o5', l2, g2, e2⟩ := rule_loop h1 hs h0 hk o3 m (j + 1) (mv ++ [x]) (.sh (.int (j : Nat))) (by omega) (by simp; omega) (fun y hy => by
      rcases List.mem_append.mp hy with h | h
      · exact hm y h
      · rw [List.mem_singleton] at h; rw [h]; exact ⟨x1, x2⟩)
    refine ⟨mv', o5', by rw [l2]; simp; omega, g2, ?_⟩
    rw [List.range'_succ, encI_cons, forL_step (bindT_one _ _ _)]
    have er : rng1R [.int (k : Nat)] = .ok (encI (List.range k)) := by rw [rng1R_nat (by omega), rngL_nat]; rfl
    have nl : (mv.map encRow).length ≤ 1000000 := by simp; omega
    have z : k ≤ 16777216 := by omega
    simp [er, sizeLine_val, z, ex, appR_ok nl]
    have e9 : mv.map encRow ++ [D.tup (encI x)] = (mv ++ [x]).map encRow := by simp [encRow]
    rw [e9, e2]
theorem V_rule {row : List Int} {k : Nat} (h1 : row.length = 14) (hk : k ≤ 5) : ∃ r n, F__law_rule [.lst (row.map .int), .int (k : Nat)] = .ok (encL r) ∧ r.Ok n k ∧ n ≤ 4 := by
  obtain ⟨x, hx⟩ : ∃ x, row[0]? = some x := ⟨row[0], List.getElem?_eq_getElem (by omega)⟩
  have ex : ixL (row.map D.int) 0 = .ok (.int x) := ixL_map (i := 0) hx
  obtain ⟨sz, hsz⟩ : ∃ sz : Nat, 1 + x % 4 = (sz : Int) := ⟨(1 + x % 4).toNat, by omega⟩
  have h0 : 1 ≤ sz := by omega
  have h6 : sz ≤ 6 := by omega
  obtain ⟨acc, ha, ea⟩ := rule_acc (row := row) (k := k) h1 h6 (.sh (.int (k : Nat))) .no .no .no .no
  obtain ⟨mv, o5, hl, hm, em⟩ := rule_loop (row := row) (k := k) h1 h6 h0 hk (.sh (.lst (encB acc))) sz 0 [] .no (by omega) (by simp) (by simp)
  have er : rng1R [.int (sz : Nat)] = .ok (encI (List.range sz)) := by rw [rng1R_nat (by omega), rngL_nat]; rfl
  have er' : rng1R [.int (sz : Nat)] = .ok (encI (List.range' 0 sz)) := by rw [er, List.range_eq_range']
  have z : sz ≤ 16777216 := by omega
  refine ⟨⟨acc, mv⟩, sz, ?_, ⟨ha, by simpa using hl, hm, h0, h6⟩, by omega⟩
  unfold F__law_rule g__law_rule
  simp [ex, chk, hsz, er, sizeLine_val, z, ea]
  rw [← List.range_eq_range'] at em
  have e0 : (List.map encRow []) = ([] : List D) := rfl
  rw [e0] at em
  rw [em]
  simp [encL, encA, encM, sizeLine_val]
theorem rules_n (i : Int) : ∃ n : Nat, ixL [D.int 0, .int 1, .int 1, .int 2, .int 2, .int 3] (i % 6) = .ok (.int (n : Nat)) ∧ n ≤ 3 := by
  have h : i % 6 = 0 ∨ i % 6 = 1 ∨ i % 6 = 2 ∨ i % 6 = 3 ∨ i % 6 = 4 ∨ i % 6 = 5 := by omega
  rcases h with h | h | h | h | h | h <;> rw [h] <;> first
    | exact ⟨0, rfl, by omega⟩
    | exact ⟨1, rfl, by omega⟩
    | exact ⟨2, rfl, by omega⟩
    | exact ⟨3, rfl, by omega⟩
theorem cutD_mid (ds : List D) (a b : Nat) (h : b ≤ ds.length) (hab : a ≤ b) : cutD ds (some (a : Int)) (some (b : Int)) = (ds.drop a).take (b - a) := by
  unfold cutD
  rw [show HT.sIx ds.length 0 (some (a : Int)) = min a ds.length from HT.sIx_nat _ _ _, show HT.sIx ds.length ds.length (some (b : Int)) = min b ds.length from HT.sIx_nat _ _ _]
  rw [Nat.min_eq_left h, Nat.min_eq_left (Nat.le_trans hab h)]
theorem pick {α β : Type} [Inhabited β] {P : α → β → Prop} {xs : List α} (h : ∀ x ∈ xs, ∃ y, P x y) : ∃ f : α → β, ∀ x ∈ xs, P x (f x) := by
  open Classical in
  exact ⟨fun x => if h : ∃ y, P x y then choose h else default, fun x hx => by
    have h1 := h x hx
    simp only [h1, dif_pos]
    exact choose_spec h1⟩
instance : Inhabited RD := ⟨⟨[], []⟩⟩
theorem V_rules (c : Int) {k : Nat} (hk : k ≤ 5) : ∃ rs : List RD, F__law_rules [.int c, .int (k : Nat)] = .ok (.lst (rs.map encL)) ∧ (∀ r ∈ rs, ∃ n, r.Ok n k ∧ n ≤ 4) ∧ rs.length ≤ 3 := by
  have hl := row_length c 43
  obtain ⟨x, hx⟩ : ∃ x, (row c 43)[0]? = some x := ⟨(row c 43)[0]'(by rw [hl]; omega), List.getElem?_eq_getElem (by rw [hl]; omega)⟩
  have ex : ixL ((row c 43).map D.int) 0 = .ok (.int x) := ixL_map (i := 0) hx
  obtain ⟨n, en, n3⟩ := rules_n x
  have er : rng1R [.int (n : Nat)] = .ok (encI (List.range n)) := by rw [rng1R_nat (by omega), rngL_nat]; rfl
  have hp : ∀ j ∈ List.range n, ∃ r : RD, F__law_rule [.lst ((((row c 43).drop (1 + 14 * j)).take 14).map .int), .int (k : Nat)] = .ok (encL r) ∧ ∃ n, r.Ok n k ∧ n ≤ 4 := fun j hj => by
    have hj := List.mem_range.mp hj
    obtain ⟨r, n, h1, h2⟩ := V_rule (row := ((row c 43).drop (1 + 14 * j)).take 14) (k := k) (by simp [hl]; omega) hk
    exact ⟨r, h1, n, h2⟩
  obtain ⟨f, hf⟩ := pick hp
  have ev : F__law_row [.int c, .int 43] = .ok (.lst ((row c 43).map .int)) := V_row c 43 (by omega)
  have e1 : lcL (.one 3) [3] yes (cal F__law_rule 2 [] (aC (slc (vo 2) (some (bi addD (cst (.int 1)) (bi mulD (cst (.int 14)) (vo 3)))) (some (bi addD (cst (.int 15)) (bi mulD (cst (.int 14)) (vo 3))))) (aC (vr 1) aN)))
      [.sh (.int c), .sh (.int (k : Nat)), .sh (.lst ((row c 43).map .int)), .no] (encI (List.range n)) = .ok (((List.range n).map f).map encL) := by
    rw [List.map_map]
    refine lcL_map fun j hj => ⟨_, rfl, ?_⟩
    have hj2 := List.mem_range.mp hj
    have e2 : cutD ((row c 43).map D.int) (some (1 + 14 * (j : Int))) (some (15 + 14 * (j : Int))) = (((row c 43).drop (1 + 14 * j)).take 14).map .int := by
      have := cutD_mid ((row c 43).map D.int) (1 + 14 * j) (15 + 14 * j) (by simp [hl]; omega) (by omega)
      rw [show (((1 + 14 * j : Nat)) : Int) = 1 + 14 * (j : Int) by omega, show (((15 + 14 * j : Nat)) : Int) = 15 + 14 * (j : Int) by omega, show 15 + 14 * j - (1 + 14 * j) = 14 by omega] at this
      rw [this, List.map_take, List.map_drop]
    simp [chk, e2]
    have := (hf j hj).1
    simpa using this
  refine ⟨(List.range n).map f, ?_, fun r hr => ?_, by simpa using n3⟩
  · have z : n ≤ 16777216 := by omega
    unfold F__law_rules g__law_rules
    simp [ev, ex, chk, sizeLine_val, en, er, z]
    rw [e1]
    simp
  · obtain ⟨j, hj, e⟩ := List.mem_map.mp hr
    rw [← e]
    exact (hf j hj).2
end Lw

set_option Elab.async false
set_option linter.all false
set_option maxRecDepth 100000
set_option maxHeartbeats 4000000
namespace Lw
open Fx
open PySem (Str)
open PySem.PyData (strOk)
open L2 (cutS)
theorem cutD_takeG (ds : List D) (k : Nat) : cutD ds none (some (k : Int)) = ds.take k := by
  unfold cutD
  rw [show HT.sIx ds.length ds.length (some (k : Int)) = min k ds.length from HT.sIx_nat _ _ _]
  simp [HT.sIx, List.take_eq_take_iff]
theorem encS_rev (xs : List Str) : (encS xs).reverse = encS xs.reverse := by simp [encS]
theorem vd_ok (r : RD) (s : Nat) : strOk (vd r s) = true := by
  unfold vd
  split
  · decide +kernel
  split
  · decide +kernel
  split <;> decide +kernel
def wds (ns : List Str) : Nat → List (List Str)
  | 0 => [[]]
  | m + 1 => (wds ns m).flatMap fun w => ns.map fun a => w ++ [a]
def wdsTo (ns : List Str) : Nat → List (List Str)
  | 0 => [[]]
  | m + 1 => wdsTo ns m ++ wds ns (m + 1)
theorem wds_mem (ns : List Str) : ∀ (m : Nat) (w : List Str), w ∈ wds ns m ↔ w.length = m ∧ ∀ a ∈ w, a ∈ ns
  | 0, w => by
    simp only [wds, List.mem_singleton]
    constructor
    · intro h; subst h; simp
    · intro ⟨h, _⟩; exact List.eq_nil_of_length_eq_zero h
  | m + 1, w => by
    simp only [wds, List.mem_flatMap, List.mem_map]
    constructor
    · rintro ⟨u, hu, a, ha, rfl⟩
      obtain ⟨h1, h2⟩ := (wds_mem ns m u).mp hu
      refine ⟨by simp [h1], fun b hb => ?_⟩
      rcases List.mem_append.mp hb with h | h
      · exact h2 b h
      · rw [List.mem_singleton] at h; rw [h]; exact ha
    · rintro ⟨h1, h2⟩
      have hw : w ≠ [] := by intro e; rw [e] at h1; simp at h1
      refine ⟨w.dropLast, (wds_mem ns m _).mpr ⟨by simp [h1], fun a ha => h2 a (List.dropLast_subset w ha)⟩, w.getLast hw, h2 _ (List.getLast_mem hw), List.dropLast_concat_getLast hw⟩
theorem wdsTo_mem (ns : List Str) : ∀ (m : Nat) (w : List Str), w ∈ wdsTo ns m ↔ w.length ≤ m ∧ ∀ a ∈ w, a ∈ ns
  | 0, w => by
    have := wds_mem ns 0 w
    simp only [wds] at this
    simp only [wdsTo, this, Nat.le_zero]
  | m + 1, w => by
    rw [wdsTo, List.mem_append, wdsTo_mem ns m w, wds_mem ns (m + 1) w]
    constructor
    · rintro (⟨h1, h2⟩ | ⟨h1, h2⟩)
      · exact ⟨by omega, h2⟩
      · exact ⟨by omega, h2⟩
    · rintro ⟨h1, h2⟩
      by_cases h : w.length = m + 1
      · exact Or.inr ⟨h, h2⟩
      · exact Or.inl ⟨by omega, h2⟩
theorem wdsTo_head (ns : List Str) : ∀ m : Nat, ∃ t, wdsTo ns m = [] :: t
  | 0 => ⟨[], rfl⟩
  | m + 1 => by obtain ⟨t, e⟩ := wdsTo_head ns m; exact ⟨t ++ wds ns (m + 1), by rw [wdsTo, e]; rfl⟩
theorem wds_len (ns : List Str) : ∀ m : Nat, (wds ns m).length = ns.length ^ m
  | 0 => rfl
  | m + 1 => by
    rw [wds, Nat.pow_succ, ← wds_len ns m]
    induction wds ns m with
    | nil => simp
    | cons w ws ih => rw [List.flatMap_cons, List.length_append, ih, List.length_map, List.length_cons, Nat.succ_mul]; omega
theorem wds_small {ns : List Str} (h : ns.length ≤ 5) {m : Nat} (hm : m ≤ 3) : (wds ns m).length ≤ 125 := by
  rw [wds_len]
  calc ns.length ^ m ≤ 5 ^ m := Nat.pow_le_pow_left h m
    _ ≤ 5 ^ 3 := Nat.pow_le_pow_right (by omega) hm
theorem wdsTo_small {ns : List Str} (h : ns.length ≤ 5) : ∀ {m : Nat}, m ≤ 3 → (wdsTo ns m).length ≤ 125 * (m + 1)
  | 0, _ => by simp [wdsTo]
  | m + 1, hm => by
    have h1 := wdsTo_small h (m := m) (by omega)
    have h2 := wds_small h hm
    rw [wdsTo, List.length_append]
    omega
def encW (ws : List (List Str)) : List D := ws.map fun w => .lst (encS w)
theorem encW_nil : encW [] = [] := rfl
theorem encW_cons (w : List Str) (ws : List (List Str)) : encW (w :: ws) = .lst (encS w) :: encW ws := rfl
theorem encW_app (u v : List (List Str)) : encW (u ++ v) = encW u ++ encW v := by simp [encW]
@[simp] theorem encW_length (u : List (List Str)) : (encW u).length = u.length := by simp [encW]
theorem all_rows {ns : List Str} (g : Nm ns) (sz s3 s4 : Sl) (s2 : Sl) : ∀ (ws acc : List (List Str)) (s6 : Sl), (∀ w ∈ ws, w.length ≤ 3) → acc.length + ws.length * 5 ≤ 1000 → ∃ t6,
    forL (.one 6) (asg 5 (bi addD (vo 5) (lc (.one 7) [7] (itm (vr 0)) yes (bi addD (vo 6) (lsd (aC (vr 7) aN)))))) (encW ws) [.sh (.lst (encS ns)), sz, s2, s3, s4, .sh (.lst (encW acc)), s6, .no]
      = .ok (.nx [.sh (.lst (encS ns)), sz, s2, s3, s4, .sh (.lst (encW (acc ++ ws.flatMap fun w => ns.map fun a => w ++ [a]))), t6, .no])
  | [], acc, s6, _, _ => ⟨s6, by simp [encW_nil, forL_nil]⟩
  | w :: ws, acc, s6, h3, hl => by
    have g5 := g.five
    have w3 := h3 w List.mem_cons_self
    simp only [List.length_cons] at hl
    obtain ⟨t6, e⟩ := all_rows g sz s3 s4 s2 ws (acc ++ ns.map fun a => w ++ [a]) (.sh (.lst (encS w))) (fun u hu => h3 u (List.mem_cons_of_mem _ hu)) (by simp; omega)
    refine ⟨t6, ?_⟩
    have ec : lcL (.one 7) [7] yes (bi addD (vo 6) (lsd (aC (vr 7) aN))) [.sh (.lst (encS ns)), sz, s2, s3, s4, .sh (.lst (encW acc)), .sh (.lst (encS w)), .no] (encS ns) = .ok (encW (ns.map fun a => w ++ [a])) := by
      rw [show encW (ns.map fun a => w ++ [a]) = ns.map fun a => D.lst (encS (w ++ [a])) by simp [encW]]
      refine lcL_map (f := D.str) fun x hx => ⟨_, rfl, ?_⟩
      have z : w.length + 1 ≤ 16777216 := by omega
      simp [chk, sizeLine_val, z, encS_app]
      rfl
    have z1 : ns.length ≤ 16777216 := by omega
    have z2 : acc.length + ns.length ≤ 16777216 := by omega
    rw [encW_cons, forL_step (bindT_one _ _ _)]
    simp [chk, sizeLine_val, ec, z1, z2]
    rw [← encW_app, e]
    simp
theorem all_loop {ns : List Str} (g : Nm ns) (sz : Sl) : ∀ (m j : Nat) (s4 s5 s6 : Sl), j + m ≤ 3 → ∃ t4 t5 t6,
    forL (.one 4) (sq (asg 5 (lsd aN)) (sq (fr (.one 6) (itm (vr 2)) (asg 5 (bi addD (vo 5) (lc (.one 7) [7] (itm (vr 0)) yes (bi addD (vo 6) (lsd (aC (vr 7) aN))))))) (sq (asg 2 (vr 5)) (asg 3 (bi addD (vo 3) (vo 2)))))) (encI (List.range' j m))
      [.sh (.lst (encS ns)), sz, .sh (.lst (encW (wds ns j))), .sh (.lst (encW (wdsTo ns j))), s4, s5, s6, .no] = .ok (.nx [.sh (.lst (encS ns)), sz, .sh (.lst (encW (wds ns (j + m)))), .sh (.lst (encW (wdsTo ns (j + m)))), t4, t5, t6, .no])
  | 0, j, s4, s5, s6, _ => ⟨s4, s5, s6, rfl⟩
  | m + 1, j, s4, s5, s6, hj => by
    have g5 := g.five
    have l1 : (wds ns j).length * 5 ≤ 1000 := by have := wds_small g5 (m := j) (by omega); omega
    obtain ⟨t6, e⟩ := all_rows g sz (.sh (.lst (encW (wdsTo ns j)))) (.sh (.int (j : Nat))) (.sh (.lst (encW (wds ns j)))) (wds ns j) [] s6 (fun w hw => by have := ((wds_mem ns j w).mp hw).1; omega) (by simpa using l1)
    obtain ⟨u4, u5, u6, e2⟩ := all_loop g sz m (j + 1) (.sh (.int (j : Nat))) (.sh (.lst (encW (wds ns (j + 1))))) t6 (by omega)
    refine ⟨u4, u5, u6, ?_⟩
    have z1 := wds_small g5 (m := j + 1) (by omega)
    have z2 := wdsTo_small g5 (m := j) (by omega)
    have z : (wdsTo ns j).length + (wds ns (j + 1)).length ≤ 16777216 := by omega
    rw [List.range'_succ, encI_cons, forL_step (bindT_one _ _ _)]
    rw [List.nil_append, show (wds ns j).flatMap (fun w => ns.map fun a => w ++ [a]) = wds ns (j + 1) from rfl, encW_nil] at e
    simp [chk, sizeLine_val, e, z]
    rw [← encW_app, show wdsTo ns j ++ wds ns (j + 1) = wdsTo ns (j + 1) from rfl, e2]
    rw [show j + 1 + m = j + (m + 1) by omega]
theorem V_all {ns : List Str} (g : Nm ns) : F__law_all [.lst (encS ns), .int 3] = .ok (.lst (encW (wdsTo ns 3))) := by
  obtain ⟨t4, t5, t6, e⟩ := all_loop g (.sh (.int 3)) 3 0 .no .no .no (by omega)
  have er : rng1R [.int 3] = .ok (encI (List.range' 0 3)) := rfl
  unfold F__law_all g__law_all
  have e0 : [D.lst []] = encW (wds ns 0) := rfl
  have e1 : [D.lst []] = encW (wdsTo ns 0) := rfl
  simp [chk, sizeLine_val, er]
  rw [← e0, ← e1] at e
  rw [e]
  simp
section
variable {r : RD} {n k : Nat} {ns : List Str}
theorem run_app (r : RD) (ns : List Str) (s : Nat) (u v : List Str) : r.run ns s (u ++ v) = r.run ns (r.run ns s u) v := by simp [RD.run]
theorem reach_run (h : r.Ok n k) (hk : ns.length = k) : ∀ {w : List Str} {s x : Nat}, s < n → r.Reach x s → (∀ a ∈ w, a ∈ ns) → r.Reach x (r.run ns s w)
  | [], s, x, _, hx, _ => hx
  | a :: w, s, x, hs, hx, ha => by
    have h1 := h.stepAt hk hs (ha a List.mem_cons_self)
    exact reach_run h hk (w := w) (s := r.step ns s a) h1.2 (hx.next (List.mem_of_getElem? h1.1)) fun b hb => ha b (List.mem_cons_of_mem _ hb)
theorem reach_self (r : RD) (s : Nat) : r.Reach s s := fun _ h _ => h
theorem run_exists (h : r.Ok n k) (hk : ns.length = k) (hd : ns.Nodup) {s x : Nat} (hs : s < n) (hx : r.Reach s x) : ∃ w, (∀ a ∈ w, a ∈ ns) ∧ r.run ns s w = x := by
  refine hx (fun x => ∃ w, (∀ a ∈ w, a ∈ ns) ∧ r.run ns s w = x) ⟨[], by simp, rfl⟩ ?_
  rintro y z ⟨w, hw, e⟩ hz
  have hy : y < n := by rw [← e]; exact h.run_lt hk hs hw
  obtain ⟨i, hi, ez⟩ := List.mem_iff_getElem.mp hz
  have hl := (h.row _ (h.at_ hy).2).1
  have hi2 : i < ns.length := by omega
  refine ⟨w ++ [ns[i]], fun a ha => ?_, ?_⟩
  · rcases List.mem_append.mp ha with h | h
    · exact hw a h
    · rw [List.mem_singleton] at h; rw [h]; exact List.getElem_mem hi2
  · rw [run_app, e]
    show r.step ns y ns[i] = z
    have e2 : ns.idxOf ns[i] = i := hd.idxOf_getElem i hi2
    rw [RD.step, e2, List.getD_eq_getElem?_getD, List.getElem?_eq_getElem hi, Option.getD_some, ez]
theorem shorter (h : r.Ok n k) (hk : ns.length = k) {s : Nat} (hs : s < n) : ∀ (m : Nat) (w : List Str), w.length ≤ m → (∀ a ∈ w, a ∈ ns) → ∃ u, u.length < n ∧ (∀ a ∈ u, a ∈ ns) ∧ r.run ns s u = r.run ns s w
  | 0, w, hm, hw => ⟨w, by have := h.one; omega, hw, rfl⟩
  | m + 1, w, hm, hw => by
    by_cases hn : w.length < n
    · exact ⟨w, hn, hw, rfl⟩
    have nn : ¬ ((List.range (w.length + 1)).map fun i => r.run ns s (w.take i)).Nodup := fun nd => by
      have := nd_len nd (n := n) fun x hx => by
        obtain ⟨i, _, e⟩ := List.mem_map.mp hx
        rw [← e]
        exact h.run_lt hk hs fun a ha => hw a (List.mem_of_mem_take ha)
      simp at this
      omega
    have : ∃ i j, i < j ∧ j ≤ w.length ∧ r.run ns s (w.take i) = r.run ns s (w.take j) := by
      refine Classical.byContradiction fun no => nn ?_
      rw [List.nodup_iff_pairwise_ne, List.pairwise_iff_getElem]
      intro i j hi hj hij e
      simp at hi hj e
      exact no ⟨i, j, hij, by omega, e⟩
    obtain ⟨i, j, hij, hj, e⟩ := this
    obtain ⟨u, u1, u2, u3⟩ := shorter h hk hs m (w.take i ++ w.drop j) (by simp; omega) fun a ha => by
      rcases List.mem_append.mp ha with h | h
      · exact hw a (List.mem_of_mem_take h)
      · exact hw a (List.mem_of_mem_drop h)
    refine ⟨u, u1, u2, ?_⟩
    rw [u3, run_app, e, ← run_app, List.take_append_drop]
theorem reach_iff (h : r.Ok n k) (hk : ns.length = k) (hd : ns.Nodup) (h4 : n ≤ 4) {s x : Nat} (hs : s < n) : r.Reach s x ↔ ∃ w ∈ wdsTo ns 3, r.run ns s w = x := by
  constructor
  · intro hx
    obtain ⟨w, hw, e⟩ := run_exists h hk hd hs hx
    obtain ⟨u, u1, u2, u3⟩ := shorter h hk hs w.length w (Nat.le_refl _) hw
    exact ⟨u, (wdsTo_mem ns 3 u).mpr ⟨by omega, u2⟩, by rw [u3, e]⟩
  · rintro ⟨w, hw, rfl⟩
    exact reach_run h hk hs (reach_self r s) ((wdsTo_mem ns 3 w).mp hw).2
theorem V_differs (h : r.Ok n k) (hk : ns.length = k) (hd : ns.Nodup) (h4 : n ≤ 4) (g : Nm ns) {ts : List Str} (hl : ts.length ≤ 1000) (ha : ∀ a ∈ ts, a ∈ ns) : F__law_differs [encR r, .lst (encS ns), .lst (encS ts), .str (vd r (r.run ns 0 ts))] = .ok (.bl true) := by
  have hs := h.run_lt hk (s := 0) (Nat.lt_of_lt_of_le Nat.zero_lt_one h.one) ha
  have g5 := g.five
  have zl := wdsTo_small g5 (m := 3) (by omega)
  have z : (wdsTo ns 3).length ≤ 16777216 := by omega
  let s := r.run ns 0 ts
  let vs : List Bool := (wdsTo ns 3).map fun w => r.a (r.run ns s w)
  have ec : ∀ o4 o5 : Sl, lcL (.one 5) [5] yes (cal F_accepts 3 [] (aC (vr 0) (aC (vr 1) (aC (bi addD (vo 2) (vo 5)) aN)))) [.sh (encR r), .sh (.lst (encS ns)), .sh (.lst (encS ts)), .sh (.str (vd r (r.run ns 0 ts))), o4, o5] (encW (wdsTo ns 3)) = .ok (encB vs) := fun o4 o5 => by
    rw [encB, List.map_map]
    refine lcL_map (f := fun w => D.lst (encS w)) fun w hw => ⟨_, rfl, ?_⟩
    have hw2 := (wdsTo_mem ns 3 w).mp hw
    have e1 := V_accepts h hk g (dn := .lst (encS ns)) (dt := .lst (encS (ts ++ w))) (ts := ts ++ w) rfl rfl fun a ha2 => by
      rcases List.mem_append.mp ha2 with h | h
      · exact ha a h
      · exact hw2.2 a h
    have zz : ts.length + w.length ≤ 16777216 := by omega
    rw [encS_app] at e1
    simp [chk, sizeLine_val, zz, e1, run_app, s]
  have i0 : ixL (encB vs) ((0 : Nat) : Int) = .ok (.bl (r.a s)) := by
    obtain ⟨t, et⟩ := wdsTo_head ns 3
    exact encB_ix (by simp [vs, et, RD.run])
  have i0 : ixL (encB vs) 0 = .ok (.bl (r.a s)) := i0
  have all1 : (∀ x, r.Reach s x → r.a x = true) ↔ false ∉ vs := by
    simp only [vs, List.mem_map, not_exists, not_and]
    constructor
    · intro h1 w hw e
      rw [h1 _ ((reach_iff h hk hd h4 hs).mpr ⟨w, hw, rfl⟩)] at e
      exact absurd e (by decide)
    · intro h1 x hx
      obtain ⟨w, hw, rfl⟩ := (reach_iff h hk hd h4 hs).mp hx
      simpa using h1 w hw
  have all2 : (∀ x, r.Reach s x → r.a x = false) ↔ true ∉ vs := by
    simp only [vs, List.mem_map, not_exists, not_and]
    constructor
    · intro h1 w hw e
      rw [h1 _ ((reach_iff h hk hd h4 hs).mpr ⟨w, hw, rfl⟩)] at e
      exact absurd e (by decide)
    · intro h1 x hx
      obtain ⟨w, hw, rfl⟩ := (reach_iff h hk hd h4 hs).mp hx
      simpa using h1 w hw
  have j1 : inD (.bl true) (.lst (encB vs)) = .ok (.bl (decide (true ∈ vs))) := inD_of (inB_bls true vs)
  have j2 : inD (.bl false) (.lst (encB vs)) = .ok (.bl (decide (false ∈ vs))) := inD_of (inB_bls false vs)
  have oks : strOk ("always" : Str) = true ∧ strOk ("never" : Str) = true ∧ strOk ("yes" : Str) = true ∧ strOk ("no" : Str) = true := by decide +kernel
  have es : ∀ {a b : Str}, strOk a = true → strOk b = true → eqD (.str a) (.str b) = .ok (.bl (decide (a = b))) := fun {a b} ha hb => by
    rw [eqD_val (Pn.str 0 ha) (Pn.str 0 hb), eqv_str, Bool.beq_eq_decide_eq]
  have eb : ∀ a b : Bool, eqD (.bl a) (.bl b) = .ok (.bl (a == b)) := fun a b => by
    rw [eqD_val (Pn.bl 0 a) (Pn.bl 0 b), eqv_bl]
  have d1 : ¬ (("never" : Str) = "always") := by decide +kernel
  have d2 : ¬ (("yes" : Str) = "always") := by decide +kernel
  have d3 : ¬ (("yes" : Str) = "never") := by decide +kernel
  have d4 : ¬ (("no" : Str) = "always") := by decide +kernel
  have d5 : ¬ (("no" : Str) = "never") := by decide +kernel
  have d6 : ¬ (("no" : Str) = "yes") := by decide +kernel
  have va := V_all g
  unfold F__law_differs g__law_differs
  have key : (vd r (r.run ns 0 ts) = "always" ∧ r.a s = true) ∨ (vd r (r.run ns 0 ts) = "never" ∧ r.a s = false) ∨ (vd r (r.run ns 0 ts) = "yes" ∧ r.a s = true ∧ true ∈ vs ∧ false ∈ vs) ∨ (vd r (r.run ns 0 ts) = "no" ∧ r.a s = false ∧ true ∈ vs ∧ false ∈ vs) := by
    unfold vd
    by_cases c1 : ∀ x, r.Reach s x → r.a x = true
    · rw [if_pos c1]; exact Or.inl ⟨rfl, c1 s (reach_self r s)⟩
    rw [if_neg c1]
    by_cases c2 : ∀ x, r.Reach s x → r.a x = false
    · rw [if_pos c2]; exact Or.inr (Or.inl ⟨rfl, c2 s (reach_self r s)⟩)
    rw [if_neg c2]
    have m1 : true ∈ vs := Classical.byContradiction fun no => c2 (all2.mpr no)
    have m2 : false ∈ vs := Classical.byContradiction fun no => c1 (all1.mpr no)
    by_cases c3 : r.a s = true
    · rw [if_pos c3]; exact Or.inr (Or.inr (Or.inl ⟨rfl, c3, m1, m2⟩))
    · rw [if_neg c3]; exact Or.inr (Or.inr (Or.inr ⟨rfl, by simpa using c3, m1, m2⟩))
  obtain ⟨o1, o2, o3, o4⟩ := oks
  rcases key with ⟨k1, k2⟩ | ⟨k1, k2⟩ | ⟨k1, k2, k3, k4⟩ | ⟨k1, k2, k3, k4⟩
  · rw [k1] at ec ⊢
    simp [va, z, sizeLine_val, ec, chk, es o1 o1, i0, k2, eb]
  · rw [k1] at ec ⊢
    simp [va, z, sizeLine_val, ec, chk, es o2 o1, es o2 o2, i0, k2, eb, d1]
  · rw [k1] at ec ⊢
    simp [va, z, sizeLine_val, ec, chk, es o3 o1, es o3 o2, es o3 o3, i0, k2, eb, d2, d3, j1, j2, k3, k4]
  · rw [k1] at ec ⊢
    simp [va, z, sizeLine_val, ec, chk, es o4 o1, es o4 o2, es o4 o3, i0, k2, eb, d4, d5, d6, j1, j2, k3, k4]
theorem V_holds (h : r.Ok n k) (hk : ns.length = k) (g : Nm ns) {ts us : List Str} (hl : ts.length + us.length ≤ 1000) (ha : ∀ a ∈ ts, a ∈ ns) (hu : ∀ a ∈ us, a ∈ ns) : F__law_holds [encR r, .lst (encS ns), .lst (encS ts), .str (vd r (r.run ns 0 ts)), .lst (encS us)] = .ok (.bl true) := by
  have hs := h.run_lt hk (s := 0) (Nat.lt_of_lt_of_le Nat.zero_lt_one h.one) ha
  let s := r.run ns 0 ts
  have e1 := V_accepts h hk g (dn := .lst (encS ns)) (dt := .lst (encS (ts ++ us))) (ts := ts ++ us) rfl rfl fun a ha2 => by
    rcases List.mem_append.mp ha2 with h | h
    · exact ha a h
    · exact hu a h
  have hr := reach_run h hk hs (reach_self r s) hu
  have ns' : ∀ {a b : Str}, strOk a = true → strOk b = true → neD (.str a) (.str b) = .ok (.bl (!decide (a = b))) := fun {a b} ha hb => by
    rw [neD_val (Pn.str 0 ha) (Pn.str 0 hb), eqv_str, Bool.beq_eq_decide_eq]
  have oks : strOk ("always" : Str) = true ∧ strOk ("never" : Str) = true := by decide +kernel
  have d1 : ¬ (("always" : Str) = "never") := by decide +kernel
  have d2 : ¬ (("never" : Str) = "always") := by decide +kernel
  have zz : ts.length + us.length ≤ 16777216 := by omega
  rw [encS_app] at e1
  have vo := vd_ok r (r.run ns 0 ts)
  unfold F__law_holds g__law_holds
  have n1 := ns' vo oks.1
  have n2 := ns' vo oks.2
  have k1 : vd r (r.run ns 0 ts) = "always" → r.a (r.run ns 0 (ts ++ us)) = true := by
    unfold vd
    intro e
    by_cases c1 : ∀ x, r.Reach (r.run ns 0 ts) x → r.a x = true
    · rw [run_app]; exact c1 _ hr
    · rw [if_neg c1] at e
      split at e
      · exact absurd e d2
      · split at e
        · exact absurd e (by decide +kernel)
        · exact absurd e (by decide +kernel)
  have k2 : vd r (r.run ns 0 ts) = "never" → r.a (r.run ns 0 (ts ++ us)) = false := by
    unfold vd
    intro e
    by_cases c1 : ∀ x, r.Reach (r.run ns 0 ts) x → r.a x = true
    · rw [if_pos c1] at e; exact absurd e d1
    rw [if_neg c1] at e
    by_cases c2 : ∀ x, r.Reach (r.run ns 0 ts) x → r.a x = false
    · rw [run_app]; exact c2 _ hr
    · rw [if_neg c2] at e
      split at e
      · exact absurd e (by decide +kernel)
      · exact absurd e (by decide +kernel)
  by_cases c1 : vd r (r.run ns 0 ts) = "always"
  · have := k1 c1
    rw [c1] at n1 n2 ⊢
    simp [zz, sizeLine_val, chk, e1, this, n1, n2, d1]
  · by_cases c2 : vd r (r.run ns 0 ts) = "never"
    · have := k2 c2
      rw [c2] at n1 n2 ⊢
      simp [zz, sizeLine_val, chk, e1, this, n1, n2, d2]
    · simp [zz, sizeLine_val, chk, e1, n1, n2, c1, c2]
end
end Lw

set_option Elab.async false
set_option linter.all false
set_option maxRecDepth 100000
set_option maxHeartbeats 4000000
namespace Lw
open Fx
open PySem (Str)
open PySem.PyData (strOk)
open L2 (cutS)
noncomputable abbrev cell_body : En → Oc Res := iff (nt (tst (cal F__law_holds 5 [] (aC (vr 4) (aC (vr 1) (aC (vr 2) (aC (vr 6) (aC (cal F__law_trace 3 [] (aC (vr 1) (aC (vr 7) (aC (bi modD (vo 7) (cst (.int 30))) aN)))) aN)))))))) (Fx.ret (cst (.bl false))) sNx
noncomputable abbrev rule_body : En → Oc Res := (sq (asg 4 (cal F_Rule___init__ 2 [] (aC (un listD (bi ixD (vo 3) (cst (.int 0)))) (aC (lc (.one 8) [8] (itm (bi ixD (vo 3) (cst (.int 1)))) yes (un listD (vo 8))) aN))))
  (sq (asg 5 (un revD (vo 2)))
  (sq (asg 6 (cal F_verdict 3 [] (aC (vr 4) (aC (vr 1) (aC (vr 5) aN)))))
  (sq (iff (orr (tst (bi ninD (vo 6) (lsd (aC (cst (.str "always")) (aC (cst (.str "never")) (aC (cst (.str "yes")) (aC (cst (.str "no")) aN))))))) (nt (tst (cal F__law_differs 4 [] (aC (vr 4) (aC (vr 1) (aC (vr 5) (aC (vr 6) aN)))))))) (Fx.ret (cst (.bl false))) sNx)
  (sq (asg 6 (cal F_verdict 3 [] (aC (vr 4) (aC (vr 1) (aC (vr 2) aN)))))
  (sq (iff (orr (tst (bi ninD (vo 6) (lsd (aC (cst (.str "always")) (aC (cst (.str "never")) (aC (cst (.str "yes")) (aC (cst (.str "no")) aN))))))) (nt (tst (cal F__law_differs 4 [] (aC (vr 4) (aC (vr 1) (aC (vr 2) (aC (vr 6) aN)))))))) (Fx.ret (cst (.bl false))) sNx)
  (fr (.one 7) (itm (bi addD (lsd (aC (cal F__law_cell 2 [] (aC (vr 0) (aC (cst (.int 4)) aN))) (aC (cal F__law_cell 2 [] (aC (vr 0) (aC (cst (.int 5)) aN))) aN))) (slc (vo 0) (some (cst (.int 6))) (some (cst (.int 20)))))) cell_body)))))))
theorem vd_in (r : RD) (s : Nat) : ninD (.str (vd r s)) (.lst [.str "always", .str "never", .str "yes", .str "no"]) = .ok (.bl false) := by
  have e : ([.str "always", .str "never", .str "yes", .str "no"] : List D) = (["always", "never", "yes", "no"] : List Str).map .str := rfl
  rw [e, ninD_of (inB_strs (vd_ok r s) (by decide +kernel))]
  have : vd r s ∈ (["always", "never", "yes", "no"] : List Str) := by
    unfold vd
    split
    · simp
    split
    · simp
    split <;> simp
  simp [this]
section
variable {r : RD} {n k : Nat} {ns : List Str}
theorem cells_loop (h : r.Ok n k) (hk : ns.length = k) (g : Nm ns) {ts : List Str} (hl : ts.length ≤ 200) (ha : ∀ a ∈ ts, a ∈ ns) (s0 s3 s5 s8 : Sl) : ∀ (cs : List Int) (s7 : Sl), ∃ t7,
    forL (.one 7) cell_body (cs.map .int) [s0, .sh (.lst (encS ns)), .sh (.lst (encS ts)), s3, .sh (encR r), s5, .sh (.str (vd r (r.run ns 0 ts))), s7, s8] = .ok (.nx [s0, .sh (.lst (encS ns)), .sh (.lst (encS ts)), s3, .sh (encR r), s5, .sh (.str (vd r (r.run ns 0 ts))), t7, s8])
  | [], s7 => ⟨_, rfl⟩
  | c :: cs, s7 => by
    obtain ⟨t7, e⟩ := cells_loop h hk g hl ha s0 s3 s5 s8 cs (.sh (.int c))
    refine ⟨t7, ?_⟩
    obtain ⟨m, hm⟩ : ∃ m : Nat, c % 30 = (m : Int) := ⟨(c % 30).toNat, by omega⟩
    obtain ⟨us, eu, hu, lu⟩ := V_trace g c m (by omega)
    have eh := V_holds h hk g (ts := ts) (us := us) (by omega) ha hu
    rw [List.map_cons, forL_step (bindT_one _ _ _)]
    simp only [List.set_cons_succ, List.set_cons_zero]
    have b : cell_body [s0, .sh (.lst (encS ns)), .sh (.lst (encS ts)), s3, .sh (encR r), s5, .sh (.str (vd r (r.run ns 0 ts))), .sh (.int c), s8] = .ok (.nx [s0, .sh (.lst (encS ns)), .sh (.lst (encS ts)), s3, .sh (encR r), s5, .sh (.str (vd r (r.run ns 0 ts))), .sh (.int c), s8]) := by
      simp [chk, hm, eu, eh]
    rw [b, goOn_nx, e]
theorem rule_turn (h : r.Ok n k) (h4 : n ≤ 4) (hk : ns.length = k) (hd : ns.Nodup) (g : Nm ns) {ts : List Str} (hl : ts.length ≤ 200) (ha : ∀ a ∈ ts, a ∈ ns) (xs : List Int) (hx : xs.length ≤ 63) (s4 s5 s6 s7 s8 : Sl) : ∃ t4 t5 t6 t7,
    rule_body [.sh (.fz (xs.map .int)), .sh (.lst (encS ns)), .sh (.lst (encS ts)), .sh (encL r), s4, s5, s6, s7, s8] = .ok (.nx [.sh (.fz (xs.map .int)), .sh (.lst (encS ns)), .sh (.lst (encS ts)), .sh (encL r), t4, t5, t6, t7, s8]) := by
  have hmv := h.mv
  have n6 := h.six
  have e0 : ixD (encL r) (.int 0) = .ok (encA r.acc) := rfl
  have e1 : ixD (encL r) (.int 1) = .ok (encM r.mv) := rfl
  have el : listD (encA r.acc) = .ok (.lst (encB r.acc)) := rfl
  have ei : items (encM r.mv) = some (r.mv.map encRow) := rfl
  have ez : (r.mv.map encRow).length ≤ 16777216 := by simp; omega
  have i1 := V_init (r := r) (d1 := .lst (encB r.acc)) (d2 := .lst (r.mv.map fun x => .lst (encI x))) (f := fun x => .lst (encI x)) rfl rfl (fun _ _ => rfl) (by omega)
  let s0 : Sl := .sh (.fz (xs.map .int))
  have ec : ∀ (q4 q5 q6 q7 q8 : Sl), lcL (.one 8) [8] yes (un listD (vo 8)) [s0, .sh (.lst (encS ns)), .sh (.lst (encS ts)), .sh (encL r), q4, q5, q6, q7, q8] (r.mv.map encRow) = .ok (r.mv.map fun x => .lst (encI x)) := fun q4 q5 q6 q7 q8 => by
    refine lcL_map fun x hx => ⟨_, rfl, ?_⟩
    simp [encRow]
  have b1 : asg 4 (cal F_Rule___init__ 2 [] (aC (un listD (bi ixD (vo 3) (cst (.int 0)))) (aC (lc (.one 8) [8] (itm (bi ixD (vo 3) (cst (.int 1)))) yes (un listD (vo 8))) aN))) [s0, .sh (.lst (encS ns)), .sh (.lst (encS ts)), .sh (encL r), s4, s5, s6, s7, s8] = .ok (.nx [s0, .sh (.lst (encS ns)), .sh (.lst (encS ts)), .sh (encL r), .sh (encR r), s5, s6, s7, s8]) := by
    simp only [asg_ap, cal_ap, aC_ap, aN_ap, un_ap, bi_ap, vo_ap, cst_ap, lc_ap, itm_ap, List.getElem?_cons_zero, List.getElem?_cons_succ, voR_sh, bd_ok, e0, e1, el, ei, sizeLine_val, ez, decide_true, chk_true, ec, List.length_cons, List.length_nil, Nat.reduceAdd, List.append_nil, i1, asgR_ok, List.set_cons_succ, List.set_cons_zero]
  have har : ∀ a ∈ ts.reverse, a ∈ ns := fun a h => ha a (List.mem_reverse.mp h)
  have v1 := V_verdict h hk g (dn := .lst (encS ns)) (dt := .lst (encS ts.reverse)) (ts := ts.reverse) rfl rfl har
  have v2 := V_verdict h hk g (dn := .lst (encS ns)) (dt := .lst (encS ts)) (ts := ts) rfl rfl ha
  have w1 := V_differs h hk hd h4 g (ts := ts.reverse) (by simp; omega) har
  have w2 := V_differs h hk hd h4 g (ts := ts) (by omega) ha
  have b2 : asg 5 (un revD (vo 2)) [s0, .sh (.lst (encS ns)), .sh (.lst (encS ts)), .sh (encL r), .sh (encR r), s5, s6, s7, s8] = .ok (.nx [s0, .sh (.lst (encS ns)), .sh (.lst (encS ts)), .sh (encL r), .sh (encR r), .sh (.lst (encS ts.reverse)), s6, s7, s8]) := by
    simp [encS_rev]
  have b3 : ∀ p5 p6 : Sl, asg 6 (cal F_verdict 3 [] (aC (vr 4) (aC (vr 1) (aC (vr 5) aN)))) [s0, .sh (.lst (encS ns)), .sh (.lst (encS ts)), .sh (encL r), .sh (encR r), .sh (.lst (encS ts.reverse)), p6, s7, s8] = .ok (.nx [s0, .sh (.lst (encS ns)), .sh (.lst (encS ts)), .sh (encL r), .sh (encR r), .sh (.lst (encS ts.reverse)), .sh (.str (vd r (r.run ns 0 ts.reverse))), s7, s8]) := fun p5 p6 => by
    simp [v1]
  have b5 : ∀ p5 p6 : Sl, asg 6 (cal F_verdict 3 [] (aC (vr 4) (aC (vr 1) (aC (vr 2) aN)))) [s0, .sh (.lst (encS ns)), .sh (.lst (encS ts)), .sh (encL r), .sh (encR r), p5, p6, s7, s8] = .ok (.nx [s0, .sh (.lst (encS ns)), .sh (.lst (encS ts)), .sh (encL r), .sh (encR r), p5, .sh (.str (vd r (r.run ns 0 ts))), s7, s8]) := fun p5 p6 => by
    simp [v2]
  have b4 : iff (orr (tst (bi ninD (vo 6) (lsd (aC (cst (.str "always")) (aC (cst (.str "never")) (aC (cst (.str "yes")) (aC (cst (.str "no")) aN))))))) (nt (tst (cal F__law_differs 4 [] (aC (vr 4) (aC (vr 1) (aC (vr 5) (aC (vr 6) aN)))))))) (Fx.ret (cst (.bl false))) sNx [s0, .sh (.lst (encS ns)), .sh (.lst (encS ts)), .sh (encL r), .sh (encR r), .sh (.lst (encS ts.reverse)), .sh (.str (vd r (r.run ns 0 ts.reverse))), s7, s8] = .ok (.nx [s0, .sh (.lst (encS ns)), .sh (.lst (encS ts)), .sh (encL r), .sh (encR r), .sh (.lst (encS ts.reverse)), .sh (.str (vd r (r.run ns 0 ts.reverse))), s7, s8]) := by
    simp [sizeLine_val, vd_in, w1]
  have b6 : iff (orr (tst (bi ninD (vo 6) (lsd (aC (cst (.str "always")) (aC (cst (.str "never")) (aC (cst (.str "yes")) (aC (cst (.str "no")) aN))))))) (nt (tst (cal F__law_differs 4 [] (aC (vr 4) (aC (vr 1) (aC (vr 2) (aC (vr 6) aN)))))))) (Fx.ret (cst (.bl false))) sNx [s0, .sh (.lst (encS ns)), .sh (.lst (encS ts)), .sh (encL r), .sh (encR r), .sh (.lst (encS ts.reverse)), .sh (.str (vd r (r.run ns 0 ts))), s7, s8] = .ok (.nx [s0, .sh (.lst (encS ns)), .sh (.lst (encS ts)), .sh (encL r), .sh (encR r), .sh (.lst (encS ts.reverse)), .sh (.str (vd r (r.run ns 0 ts))), s7, s8]) := by
    simp [sizeLine_val, vd_in, w2]
  have c4 : F__law_cell [.fz (xs.map .int), .int 4] = .ok (.int (xs.getD 4 0)) := V_cell xs 4
  have c5 : F__law_cell [.fz (xs.map .int), .int 5] = .ok (.int (xs.getD 5 0)) := V_cell xs 5
  obtain ⟨ys, ey, ly⟩ : ∃ ys : List Int, cutD (xs.map D.int) (some 6) (some 20) = ys.map .int ∧ ys.length ≤ 63 := by
    unfold cutD
    refine ⟨(xs.drop _).take _, by rw [List.map_take, List.map_drop], by simp; omega⟩
  obtain ⟨t7, e7⟩ := cells_loop h hk g hl ha s0 (.sh (encL r)) (.sh (.lst (encS ts.reverse))) s8 ([xs.getD 4 0, xs.getD 5 0] ++ ys) s7
  refine ⟨.sh (encR r), .sh (.lst (encS ts.reverse)), .sh (.str (vd r (r.run ns 0 ts))), t7, ?_⟩
  have hsrc : itm (bi addD (lsd (aC (cal F__law_cell 2 [] (aC (vr 0) (aC (cst (.int 4)) aN))) (aC (cal F__law_cell 2 [] (aC (vr 0) (aC (cst (.int 5)) aN))) aN))) (slc (vo 0) (some (cst (.int 6))) (some (cst (.int 20))))) [s0, .sh (.lst (encS ns)), .sh (.lst (encS ts)), .sh (encL r), .sh (encR r), .sh (.lst (encS ts.reverse)), .sh (.str (vd r (r.run ns 0 ts))), s7, s8] = .ok (([xs.getD 4 0, xs.getD 5 0] ++ ys).map .int) := by
    simp only [List.getD_eq_getElem?_getD] at c4 c5
    have z : 2 + ys.length ≤ 16777216 := by omega
    simp [s0, c4, c5, sizeLine_val, ey, chk, z]
  rw [rule_body, sq_ap, b1, contS_nx, sq_ap, b2, contS_nx, sq_ap, b3 s5, contS_nx, sq_ap, b4, contS_nx, sq_ap, b5, contS_nx, sq_ap, b6, contS_nx, fr_ap, hsrc, frR_ok, e7]
theorem rules_loop (hk : ns.length = k) (hd : ns.Nodup) (g : Nm ns) {ts : List Str} (hl : ts.length ≤ 200) (ha : ∀ a ∈ ts, a ∈ ns) (xs : List Int) (hx : xs.length ≤ 63) : ∀ (rs : List RD) (s3 s4 s5 s6 s7 s8 : Sl), (∀ r ∈ rs, ∃ n, r.Ok n k ∧ n ≤ 4) → ∃ ρ,
    forL (.one 3) rule_body (rs.map encL) [.sh (.fz (xs.map .int)), .sh (.lst (encS ns)), .sh (.lst (encS ts)), s3, s4, s5, s6, s7, s8] = .ok (.nx ρ)
  | [], s3, s4, s5, s6, s7, s8, _ => ⟨_, rfl⟩
  | r :: rs, s3, s4, s5, s6, s7, s8, hr => by
    obtain ⟨n, h, h4⟩ := hr r List.mem_cons_self
    obtain ⟨t4, t5, t6, t7, e1⟩ := rule_turn h h4 hk hd g hl ha xs hx s4 s5 s6 s7 s8
    obtain ⟨ρ, e2⟩ := rules_loop hk hd g hl ha xs hx rs (.sh (encL r)) t4 t5 t6 t7 s8 fun x hx => hr x (List.mem_cons_of_mem _ hx)
    refine ⟨ρ, ?_⟩
    rw [List.map_cons, forL_step (bindT_one _ _ _)]
    simp only [List.set_cons_succ, List.set_cons_zero]
    rw [e1, goOn_nx, e2]
end
theorem law_true (xs : List Int) (hx : xs.length ≤ 63) : F_law [.fz (xs.map .int)] = .ok (.bl true) := by
  obtain ⟨ns, en, g, nd⟩ := V_names (xs.getD 0 0)
  have g5 := g.five
  obtain ⟨m, hm⟩ : ∃ m : Nat, xs.getD 3 0 % 30 = (m : Int) := ⟨(xs.getD 3 0 % 30).toNat, by omega⟩
  obtain ⟨t1, et, ht, hl⟩ := V_trace g (xs.getD 2 0) m (by omega)
  obtain ⟨rs, er, hr, _⟩ := V_rules (xs.getD 1 0) (k := ns.length) (by omega)
  have c0 : F__law_cell [.fz (xs.map .int), .int 0] = .ok (.int (xs.getD 0 0)) := V_cell xs 0
  have c1 : F__law_cell [.fz (xs.map .int), .int 1] = .ok (.int (xs.getD 1 0)) := V_cell xs 1
  have c2 : F__law_cell [.fz (xs.map .int), .int 2] = .ok (.int (xs.getD 2 0)) := V_cell xs 2
  have c3 : F__law_cell [.fz (xs.map .int), .int 3] = .ok (.int (xs.getD 3 0)) := V_cell xs 3
  let S : Sl → Sl → List Sl := fun a b => [.sh (.fz (xs.map .int)), a, b, .no, .no, .no, .no, .no, .no]
  have b1 : asg 1 (cal F__law_names 1 [] (aC (cal F__law_cell 2 [] (aC (vr 0) (aC (cst (.int 0)) aN))) aN)) (S .no .no) = .ok (.nx (S (.sh (.lst (encS ns))) .no)) := by
    simp only [List.getD_eq_getElem?_getD] at c0 en
    simp [S, c0, en]
  have b2 : asg 2 (cal F__law_trace 3 [] (aC (vr 1) (aC (cal F__law_cell 2 [] (aC (vr 0) (aC (cst (.int 2)) aN))) (aC (bi modD (cal F__law_cell 2 [] (aC (vr 0) (aC (cst (.int 3)) aN))) (cst (.int 30))) aN)))) (S (.sh (.lst (encS ns))) .no) = .ok (.nx (S (.sh (.lst (encS ns))) (.sh (.lst (encS t1))))) := by
    simp only [List.getD_eq_getElem?_getD] at c2 c3 et hm
    simp [S, c2, c3, hm, et, chk]
  obtain ⟨ρ, e7⟩ := rules_loop (ns := ns) (k := ns.length) rfl nd g (ts := t1) (by omega) ht xs hx rs .no .no .no .no .no .no hr
  have hsrc : itm (cal F__law_rules 2 [] (aC (cal F__law_cell 2 [] (aC (vr 0) (aC (cst (.int 1)) aN))) (aC (un lenD (vo 1)) aN))) (S (.sh (.lst (encS ns))) (.sh (.lst (encS t1)))) = .ok (rs.map encL) := by
    simp only [List.getD_eq_getElem?_getD] at c1 er
    simp [S, c1, er]
  unfold F_law
  rw [fnB_ap]
  show outR (g_law (S .no .no)) = _
  unfold g_law
  rw [sq_ap, b1, contS_nx, sq_ap, b2, contS_nx, sq_ap, fr_ap, hsrc, frR_ok]
  rw [show forL (.one 3) _ (rs.map encL) _ = Oc.ok (Res.nx ρ) from e7, contS_nx]
  rfl
end Lw

set_option Elab.async false
set_option linter.all false
set_option maxRecDepth 100000
set_option maxHeartbeats 4000000
namespace Lw
open PySem PySem.Spec PyProof.Rows L2 Fx
def spLaw (K : PySem.W.Frag) : Sp := fun vs H Q _ => ∃ (a : Addr) (ns : List Int), vs = [.ref a] ∧ SqL K H a (ns.map V.int) ∧ ns.length ≤ 63 ∧ ∀ H', Q (.bl true) H'
theorem repL_intsZ {K : PySem.W.Frag} {mg : Str → Option Value} {G : Hp} : ∀ ns : List Int, RepL K mg G (ns.map V.int) (ns.map D.int)
  | [] => .nil
  | n :: ns => .cons (.int n) (repL_intsZ ns)
theorem law_imp {K : PySem.W.Frag} {mg : Str → Option Value} (vs : List V) (H : Hp) (Q : VK) (E : XK) (h : spLaw K vs H Q E) : spF K mg (1 + ([] : List D).length) F_law vs H Q E := by
  obtain ⟨a, ns, rfl, hS, hl, q⟩ := h
  refine ⟨rfl, H, [.fz (ns.map .int)], .refl _, .cons (.fz hS (repL_intsZ ns)) .nil, ?_⟩
  rw [law_true ns hl]
  intro v G' H' x r
  cases r
  exact q H'
theorem all_mk {l : PySem.W.OpenLaw} {w : World} {K : PySem.W.Frag} {h : Heap} {mg : Str → Option Value} {fa C_Rule f1 f2 f3 f4 f5 f6 f7 f8 f9 f10 f11 f12 f13 f14 f15 f16 f17 f18 : Addr} (X : K.In h) (G : h.Ns mainGlobals mg) (hfa : mg "law" = some (.ref fa))
    {od1 an1 : Option Addr} {sl1 : Array (Option Value)} {oc1 kV1 dc1 pm1 cd1 ct1 : Value}
    {od2 an2 : Option Addr} {sl2 : Array (Option Value)} {oc2 kV2 dc2 pm2 cd2 ct2 : Value}
    {od3 an3 : Option Addr} {sl3 : Array (Option Value)} {oc3 kV3 dc3 pm3 cd3 ct3 : Value}
    {od4 an4 : Option Addr} {sl4 : Array (Option Value)} {oc4 kV4 dc4 pm4 cd4 ct4 : Value}
    {od5 an5 : Option Addr} {sl5 : Array (Option Value)} {oc5 kV5 dc5 pm5 cd5 ct5 : Value}
    {od6 an6 : Option Addr} {sl6 : Array (Option Value)} {oc6 kV6 dc6 pm6 cd6 ct6 : Value}
    {od7 an7 : Option Addr} {sl7 : Array (Option Value)} {oc7 kV7 dc7 pm7 cd7 ct7 : Value}
    {od8 an8 : Option Addr} {sl8 : Array (Option Value)} {oc8 kV8 dc8 pm8 cd8 ct8 : Value}
    {od9 an9 : Option Addr} {sl9 : Array (Option Value)} {oc9 kV9 dc9 pm9 cd9 ct9 : Value}
    {od10 an10 : Option Addr} {sl10 : Array (Option Value)} {oc10 kV10 dc10 pm10 cd10 ct10 : Value}
    {od11 an11 : Option Addr} {sl11 : Array (Option Value)} {oc11 kV11 dc11 pm11 cd11 ct11 : Value}
    {od12 an12 : Option Addr} {sl12 : Array (Option Value)} {oc12 kV12 dc12 pm12 cd12 ct12 : Value}
    {od13 an13 : Option Addr} {sl13 : Array (Option Value)} {oc13 kV13 dc13 pm13 cd13 ct13 : Value}
    {od14 an14 : Option Addr} {sl14 : Array (Option Value)} {oc14 kV14 dc14 pm14 cd14 ct14 : Value}
    {od15 an15 : Option Addr} {sl15 : Array (Option Value)} {oc15 kV15 dc15 pm15 cd15 ct15 : Value}
    {od16 an16 : Option Addr} {sl16 : Array (Option Value)} {oc16 kV16 dc16 pm16 cd16 ct16 : Value}
    {od17 an17 : Option Addr} {sl17 : Array (Option Value)} {oc17 kV17 dc17 pm17 cd17 ct17 : Value}
    {od18 an18 : Option Addr} {sl18 : Array (Option Value)} {oc18 kV18 dc18 pm18 cd18 ct18 : Value}
    (aC_Rule : PySem.W.nsIn K mainGlobals "Rule" = some (some (.ref C_Rule)))
    (a1 : PySem.W.findIn K (.ref C_Rule) "__init__" = some (some (.ref f1)))
    (i1 : PySem.W.isFn K (.ref f1) = true)
    (l1 : K.lookup f1 = some ⟨oc1, od1, .func (PySem.W.fnOf "__init__" "Rule.__init__" (defArgs s_Rule___init__) (defBody s_Rule___init__) (defScope s_Rule___init__) .none kV1 dc1 pm1 an1 cd1 ct1), sl1⟩)
    (c1 : PySem.W.codeIn K cd1 "Rule.__init__" = true)
    (k1 : PySem.W.keepIn K (.ref f1) = true)
    (a2 : PySem.W.nsIn K mainGlobals "state_after" = some (some (.ref f2)))
    (l2 : K.lookup f2 = some ⟨oc2, od2, .func (PySem.W.fnOf "state_after" "state_after" (defArgs s_state_after) (defBody s_state_after) (defScope s_state_after) .none kV2 dc2 pm2 an2 cd2 ct2), sl2⟩)
    (c2 : PySem.W.codeIn K cd2 "state_after" = true)
    (k2 : PySem.W.keepIn K (.ref f2) = true)
    (a3 : PySem.W.nsIn K mainGlobals "accepts" = some (some (.ref f3)))
    (l3 : K.lookup f3 = some ⟨oc3, od3, .func (PySem.W.fnOf "accepts" "accepts" (defArgs s_accepts) (defBody s_accepts) (defScope s_accepts) .none kV3 dc3 pm3 an3 cd3 ct3), sl3⟩)
    (c3 : PySem.W.codeIn K cd3 "accepts" = true)
    (k3 : PySem.W.keepIn K (.ref f3) = true)
    (a4 : PySem.W.nsIn K mainGlobals "states_from" = some (some (.ref f4)))
    (l4 : K.lookup f4 = some ⟨oc4, od4, .func (PySem.W.fnOf "states_from" "states_from" (defArgs s_states_from) (defBody s_states_from) (defScope s_states_from) .none kV4 dc4 pm4 an4 cd4 ct4), sl4⟩)
    (c4 : PySem.W.codeIn K cd4 "states_from" = true)
    (k4 : PySem.W.keepIn K (.ref f4) = true)
    (a5 : PySem.W.nsIn K mainGlobals "verdict" = some (some (.ref f5)))
    (l5 : K.lookup f5 = some ⟨oc5, od5, .func (PySem.W.fnOf "verdict" "verdict" (defArgs s_verdict) (defBody s_verdict) (defScope s_verdict) .none kV5 dc5 pm5 an5 cd5 ct5), sl5⟩)
    (c5 : PySem.W.codeIn K cd5 "verdict" = true)
    (k5 : PySem.W.keepIn K (.ref f5) = true)
    (a6 : PySem.W.nsIn K mainGlobals "_law_cell" = some (some (.ref f6)))
    (l6 : K.lookup f6 = some ⟨oc6, od6, .func (PySem.W.fnOf "_law_cell" "_law_cell" (defArgs s__law_cell) (defBody s__law_cell) (defScope s__law_cell) .none kV6 dc6 pm6 an6 cd6 ct6), sl6⟩)
    (c6 : PySem.W.codeIn K cd6 "_law_cell" = true)
    (k6 : PySem.W.keepIn K (.ref f6) = true)
    (a7 : PySem.W.nsIn K mainGlobals "_law_row" = some (some (.ref f7)))
    (l7 : K.lookup f7 = some ⟨oc7, od7, .func (PySem.W.fnOf "_law_row" "_law_row" (defArgs s__law_row) (defBody s__law_row) (defScope s__law_row) .none kV7 dc7 pm7 an7 cd7 ct7), sl7⟩)
    (c7 : PySem.W.codeIn K cd7 "_law_row" = true)
    (k7 : PySem.W.keepIn K (.ref f7) = true)
    (a8 : PySem.W.nsIn K mainGlobals "_law_word" = some (some (.ref f8)))
    (l8 : K.lookup f8 = some ⟨oc8, od8, .func (PySem.W.fnOf "_law_word" "_law_word" (defArgs s__law_word) (defBody s__law_word) (defScope s__law_word) .none kV8 dc8 pm8 an8 cd8 ct8), sl8⟩)
    (c8 : PySem.W.codeIn K cd8 "_law_word" = true)
    (k8 : PySem.W.keepIn K (.ref f8) = true)
    (a9 : PySem.W.nsIn K mainGlobals "_law_names" = some (some (.ref f9)))
    (l9 : K.lookup f9 = some ⟨oc9, od9, .func (PySem.W.fnOf "_law_names" "_law_names" (defArgs s__law_names) (defBody s__law_names) (defScope s__law_names) .none kV9 dc9 pm9 an9 cd9 ct9), sl9⟩)
    (c9 : PySem.W.codeIn K cd9 "_law_names" = true)
    (k9 : PySem.W.keepIn K (.ref f9) = true)
    (a10 : PySem.W.nsIn K mainGlobals "_law_rule" = some (some (.ref f10)))
    (l10 : K.lookup f10 = some ⟨oc10, od10, .func (PySem.W.fnOf "_law_rule" "_law_rule" (defArgs s__law_rule) (defBody s__law_rule) (defScope s__law_rule) .none kV10 dc10 pm10 an10 cd10 ct10), sl10⟩)
    (c10 : PySem.W.codeIn K cd10 "_law_rule" = true)
    (k10 : PySem.W.keepIn K (.ref f10) = true)
    (a11 : PySem.W.nsIn K mainGlobals "_law_rules" = some (some (.ref f11)))
    (l11 : K.lookup f11 = some ⟨oc11, od11, .func (PySem.W.fnOf "_law_rules" "_law_rules" (defArgs s__law_rules) (defBody s__law_rules) (defScope s__law_rules) .none kV11 dc11 pm11 an11 cd11 ct11), sl11⟩)
    (c11 : PySem.W.codeIn K cd11 "_law_rules" = true)
    (k11 : PySem.W.keepIn K (.ref f11) = true)
    (a12 : PySem.W.nsIn K mainGlobals "_law_state" = some (some (.ref f12)))
    (l12 : K.lookup f12 = some ⟨oc12, od12, .func (PySem.W.fnOf "_law_state" "_law_state" (defArgs s__law_state) (defBody s__law_state) (defScope s__law_state) .none kV12 dc12 pm12 an12 cd12 ct12), sl12⟩)
    (c12 : PySem.W.codeIn K cd12 "_law_state" = true)
    (k12 : PySem.W.keepIn K (.ref f12) = true)
    (a13 : PySem.W.nsIn K mainGlobals "_law_trace" = some (some (.ref f13)))
    (l13 : K.lookup f13 = some ⟨oc13, od13, .func (PySem.W.fnOf "_law_trace" "_law_trace" (defArgs s__law_trace) (defBody s__law_trace) (defScope s__law_trace) .none kV13 dc13 pm13 an13 cd13 ct13), sl13⟩)
    (c13 : PySem.W.codeIn K cd13 "_law_trace" = true)
    (k13 : PySem.W.keepIn K (.ref f13) = true)
    (a14 : PySem.W.nsIn K mainGlobals "_law_traces" = some (some (.ref f14)))
    (l14 : K.lookup f14 = some ⟨oc14, od14, .func (PySem.W.fnOf "_law_traces" "_law_traces" (defArgs s__law_traces) (defBody s__law_traces) (defScope s__law_traces) .none kV14 dc14 pm14 an14 cd14 ct14), sl14⟩)
    (c14 : PySem.W.codeIn K cd14 "_law_traces" = true)
    (k14 : PySem.W.keepIn K (.ref f14) = true)
    (a15 : PySem.W.nsIn K mainGlobals "_law_all" = some (some (.ref f15)))
    (l15 : K.lookup f15 = some ⟨oc15, od15, .func (PySem.W.fnOf "_law_all" "_law_all" (defArgs s__law_all) (defBody s__law_all) (defScope s__law_all) .none kV15 dc15 pm15 an15 cd15 ct15), sl15⟩)
    (c15 : PySem.W.codeIn K cd15 "_law_all" = true)
    (k15 : PySem.W.keepIn K (.ref f15) = true)
    (a16 : PySem.W.nsIn K mainGlobals "_law_holds" = some (some (.ref f16)))
    (l16 : K.lookup f16 = some ⟨oc16, od16, .func (PySem.W.fnOf "_law_holds" "_law_holds" (defArgs s__law_holds) (defBody s__law_holds) (defScope s__law_holds) .none kV16 dc16 pm16 an16 cd16 ct16), sl16⟩)
    (c16 : PySem.W.codeIn K cd16 "_law_holds" = true)
    (k16 : PySem.W.keepIn K (.ref f16) = true)
    (a17 : PySem.W.nsIn K mainGlobals "_law_differs" = some (some (.ref f17)))
    (l17 : K.lookup f17 = some ⟨oc17, od17, .func (PySem.W.fnOf "_law_differs" "_law_differs" (defArgs s__law_differs) (defBody s__law_differs) (defScope s__law_differs) .none kV17 dc17 pm17 an17 cd17 ct17), sl17⟩)
    (c17 : PySem.W.codeIn K cd17 "_law_differs" = true)
    (k17 : PySem.W.keepIn K (.ref f17) = true)
    (a18 : PySem.W.nsIn K mainGlobals "law" = some (some (.ref f18)))
    (l18 : K.lookup f18 = some ⟨oc18, od18, .func (PySem.W.fnOf "law" "law" (defArgs s_law) (defBody s_law) (defScope s_law) .none kV18 dc18 pm18 an18 cd18 ct18), sl18⟩)
    (c18 : PySem.W.codeIn K cd18 "law" = true)
    (k18 : PySem.W.keepIn K (.ref f18) = true)
    (pg_Rule : PySem.W.plainGet K C_Rule Str.empty = true)
    (hd_Rule : PySem.W.hasDictIn K C_Rule = true)
    (po_Rule : PySem.W.plainOver K C_Rule = true)
    (sa_Rule : PySem.W.findIn K (.ref C_Rule) "__setattr__" = some (some (.builtin "object.__setattr__")))
    (mk_Rule : PySem.W.makesIn K C_Rule = true)
    (kc_Rule : PySem.W.keepIn K (.ref C_Rule) = true)
    (bm_all : PySem.W.nsIn K mainGlobals "all" = some none)
    (bm_any : PySem.W.nsIn K mainGlobals "any" = some none)
    (bm_int : PySem.W.nsIn K mainGlobals "int" = some none)
    (bm_len : PySem.W.nsIn K mainGlobals "len" = some none)
    (bm_list : PySem.W.nsIn K mainGlobals "list" = some none)
    (bm_range : PySem.W.nsIn K mainGlobals "range" = some none)
    (bm_tuple : PySem.W.nsIn K mainGlobals "tuple" = some none)
    (na_Rule_accepting : PySem.W.findIn K (.ref C_Rule) "accepting" = some none)
    (na_Rule_moves : PySem.W.findIn K (.ref C_Rule) "moves" = some none)
    : ∃ fd : FuncData, (∀ (s : Shared) (v : Value), BindsTo s fd ⟨[v], []⟩ [("_law_script", v)]) ∧ ∀ base : Heap, K.In base → base.Ns mainGlobals mg → FnOk l.prog w K mg base (L2.CX l.prog w) 4 fa fd ["_law_script"] (spLaw K) := by
  have e := hfa.symm.trans (PySem.W.mg_of X G a18)
  cases e
  have T : Facts K mg := {
    m_all := PySem.W.mg_none_of X G bm_all
    m_any := PySem.W.mg_none_of X G bm_any
    m_int := PySem.W.mg_none_of X G bm_int
    m_len := PySem.W.mg_none_of X G bm_len
    m_list := PySem.W.mg_none_of X G bm_list
    m_range := PySem.W.mg_none_of X G bm_range
    m_tuple := PySem.W.mg_none_of X G bm_tuple
    a_accepting := (List.forall_mem_cons.mpr ⟨fun C h => by (have e := h.symm.trans (PySem.W.mg_of X G aC_Rule); cases e; exact ⟨⟨pg_Rule, hd_Rule, po_Rule, sa_Rule⟩, na_Rule_accepting⟩), fun _ z => absurd z List.not_mem_nil⟩)
    a_moves := (List.forall_mem_cons.mpr ⟨fun C h => by (have e := h.symm.trans (PySem.W.mg_of X G aC_Rule); cases e; exact ⟨⟨pg_Rule, hd_Rule, po_Rule, sa_Rule⟩, na_Rule_moves⟩), fun _ z => absurd z List.not_mem_nil⟩)
    s_Rule_accepting := (List.forall_mem_cons.mpr ⟨fun C h => by (have e := h.symm.trans (PySem.W.mg_of X G aC_Rule); cases e; exact ⟨⟨pg_Rule, hd_Rule, po_Rule, sa_Rule⟩, na_Rule_accepting⟩), fun _ z => absurd z List.not_mem_nil⟩)
    s_Rule_moves := (List.forall_mem_cons.mpr ⟨fun C h => by (have e := h.symm.trans (PySem.W.mg_of X G aC_Rule); cases e; exact ⟨⟨pg_Rule, hd_Rule, po_Rule, sa_Rule⟩, na_Rule_moves⟩), fun _ z => absurd z List.not_mem_nil⟩)
    f_Rule___init__ := ⟨C_Rule, f1, _, ⟨mk_Rule, a1, i1, kc_Rule⟩, fun_mk (st := s_Rule___init__) l1 c1 k1, PySem.W.mg_of X G aC_Rule⟩
    f_state_after := ⟨f2, _, fun_mk (st := s_state_after) l2 c2 k2, PySem.W.mg_of X G a2⟩
    f_accepts := ⟨f3, _, fun_mk (st := s_accepts) l3 c3 k3, PySem.W.mg_of X G a3⟩
    f_states_from := ⟨f4, _, fun_mk (st := s_states_from) l4 c4 k4, PySem.W.mg_of X G a4⟩
    f_verdict := ⟨f5, _, fun_mk (st := s_verdict) l5 c5 k5, PySem.W.mg_of X G a5⟩
    f__law_cell := ⟨f6, _, fun_mk (st := s__law_cell) l6 c6 k6, PySem.W.mg_of X G a6⟩
    f__law_row := ⟨f7, _, fun_mk (st := s__law_row) l7 c7 k7, PySem.W.mg_of X G a7⟩
    f__law_word := ⟨f8, _, fun_mk (st := s__law_word) l8 c8 k8, PySem.W.mg_of X G a8⟩
    f__law_names := ⟨f9, _, fun_mk (st := s__law_names) l9 c9 k9, PySem.W.mg_of X G a9⟩
    f__law_rule := ⟨f10, _, fun_mk (st := s__law_rule) l10 c10 k10, PySem.W.mg_of X G a10⟩
    f__law_rules := ⟨f11, _, fun_mk (st := s__law_rules) l11 c11 k11, PySem.W.mg_of X G a11⟩
    f__law_state := ⟨f12, _, fun_mk (st := s__law_state) l12 c12 k12, PySem.W.mg_of X G a12⟩
    f__law_trace := ⟨f13, _, fun_mk (st := s__law_trace) l13 c13 k13, PySem.W.mg_of X G a13⟩
    f__law_traces := ⟨f14, _, fun_mk (st := s__law_traces) l14 c14 k14, PySem.W.mg_of X G a14⟩
    f__law_all := ⟨f15, _, fun_mk (st := s__law_all) l15 c15 k15, PySem.W.mg_of X G a15⟩
    f__law_holds := ⟨f16, _, fun_mk (st := s__law_holds) l16 c16 k16, PySem.W.mg_of X G a16⟩
    f__law_differs := ⟨f17, _, fun_mk (st := s__law_differs) l17 c17 k17, PySem.W.mg_of X G a17⟩
    f_law := ⟨_, _, fun_mk (st := s_law) l18 c18 k18, PySem.W.mg_of X G a18⟩ }
  refine ⟨PySem.W.fnOf "law" "law" (defArgs s_law) (defBody s_law) (defScope s_law) .none kV18 dc18 pm18 an18 cd18 ct18, fun s v => .of_eq rfl, fun base _ _ => ?_⟩
  exact (law_fn (P := l.prog) (w := w) (base := base) T (fun_mk (st := s_law) l18 c18 k18)).imp fun vs H Q E h => law_imp vs H Q E h
theorem walk {l : PySem.W.OpenLaw} {q : Program} {loose : List Str} {XP : (Str → Option Value) → Heap → Prop} {YP : World → Heap → Prop} {d : DefRec} {K : Params → PySem.W.Frag} (hn : l.most = some 63) (hdf : d.params.defaults = [])
    (hY : ∀ (w : World) (h : Heap), YP w h → (K w.params).In h)
    (F : ∀ (w : World) (mg : Str → Option Value) (fa : Addr) (h : Heap), (K w.params).In h → h.Ns mainGlobals mg → mg d.name = some (.ref fa) →
      ∃ fd : FuncData, (∀ (s : Shared) (u : Value), BindsTo s fd ⟨[u], []⟩ [("_law_script", u)]) ∧ ∀ base : Heap, (K w.params).In base → base.Ns mainGlobals mg → FnOk l.prog w (K w.params) mg base (L2.CX l.prog w) 4 fa fd ["_law_script"] (spLaw (K w.params))) :
    PySem.W.WalkO q loose XP YP l.row.toRowW d [] (fun f vs => PySem.call f vs) :=
  L2.walk_of (n := 63) (k := 4) (x := "_law_script") (CX := fun w => L2.CX l.prog w) (sp := fun w => spLaw (K w.params)) hn (by decide) hdf ⟨rfl, by decide, by decide⟩ hY F (fun _ _ a ns hl _ hS => ⟨a, ns, rfl, hS, hl, fun _ => rfl⟩) fun w H s e s' z => by
    obtain ⟨_, _, _, _, _, _, _, _, _, _, _, _, z⟩ := z
    exact z
end Lw
open PySem PySem.W PyProof.Rows
set_option maxRecDepth 100000 in
set_option maxHeartbeats 0 in
theorem PySem.Challenge.cw_caseslive_k02_whole_verdicts_hold_holds : PySem.Challenge.rw_caseslive_k02_whole_verdicts_hold.Holds := by
  w_on; o_law; k_head; (case hw => w_witness2)
  k_fill
  refine Lw.walk (l := PySem.Challenge.rw_caseslive_k02_whole_verdicts_hold) rfl rfl (fun w h Y => PySem.W.kIn_of Y) ?F
  case F =>
    intro w mg fa h KX G hmg
    refine' Lw.all_mk KX G hmg ?aC_Rule ?a1 ?i1 ?l1 ?c1 ?k1 ?a2 ?l2 ?c2 ?k2 ?a3 ?l3 ?c3 ?k3 ?a4 ?l4 ?c4 ?k4 ?a5 ?l5 ?c5 ?k5 ?a6 ?l6 ?c6 ?k6 ?a7 ?l7 ?c7 ?k7 ?a8 ?l8 ?c8 ?k8 ?a9 ?l9 ?c9 ?k9 ?a10 ?l10 ?c10 ?k10 ?a11 ?l11 ?c11 ?k11 ?a12 ?l12 ?c12 ?k12 ?a13 ?l13 ?c13 ?k13 ?a14 ?l14 ?c14 ?k14 ?a15 ?l15 ?c15 ?k15 ?a16 ?l16 ?c16 ?k16 ?a17 ?l17 ?c17 ?k17 ?a18 ?l18 ?c18 ?k18 ?pg_Rule ?hd_Rule ?po_Rule ?sa_Rule ?mk_Rule ?kc_Rule ?bm_all ?bm_any ?bm_int ?bm_len ?bm_list ?bm_range ?bm_tuple ?na_Rule_accepting ?na_Rule_moves
    (case aC_Rule => k_is)
    (case a1 => k_is)
    (case i1 => k_is)
    (case l1 => k_is)
    (case c1 => k_is)
    (case k1 => k_is)
    (case a2 => k_is)
    (case l2 => k_is)
    (case c2 => k_is)
    (case k2 => k_is)
    (case a3 => k_is)
    (case l3 => k_is)
    (case c3 => k_is)
    (case k3 => k_is)
    (case a4 => k_is)
    (case l4 => k_is)
    (case c4 => k_is)
    (case k4 => k_is)
    (case a5 => k_is)
    (case l5 => k_is)
    (case c5 => k_is)
    (case k5 => k_is)
    (case a6 => k_is)
    (case l6 => k_is)
    (case c6 => k_is)
    (case k6 => k_is)
    (case a7 => k_is)
    (case l7 => k_is)
    (case c7 => k_is)
    (case k7 => k_is)
    (case a8 => k_is)
    (case l8 => k_is)
    (case c8 => k_is)
    (case k8 => k_is)
    (case a9 => k_is)
    (case l9 => k_is)
    (case c9 => k_is)
    (case k9 => k_is)
    (case a10 => k_is)
    (case l10 => k_is)
    (case c10 => k_is)
    (case k10 => k_is)
    (case a11 => k_is)
    (case l11 => k_is)
    (case c11 => k_is)
    (case k11 => k_is)
    (case a12 => k_is)
    (case l12 => k_is)
    (case c12 => k_is)
    (case k12 => k_is)
    (case a13 => k_is)
    (case l13 => k_is)
    (case c13 => k_is)
    (case k13 => k_is)
    (case a14 => k_is)
    (case l14 => k_is)
    (case c14 => k_is)
    (case k14 => k_is)
    (case a15 => k_is)
    (case l15 => k_is)
    (case c15 => k_is)
    (case k15 => k_is)
    (case a16 => k_is)
    (case l16 => k_is)
    (case c16 => k_is)
    (case k16 => k_is)
    (case a17 => k_is)
    (case l17 => k_is)
    (case c17 => k_is)
    (case k17 => k_is)
    (case a18 => k_is)
    (case l18 => k_is)
    (case c18 => k_is)
    (case k18 => k_is)
    (case pg_Rule => k_is)
    (case hd_Rule => k_is)
    (case po_Rule => k_is)
    (case sa_Rule => k_is)
    (case mk_Rule => k_is)
    (case kc_Rule => k_is)
    (case bm_all => k_is)
    (case bm_any => k_is)
    (case bm_int => k_is)
    (case bm_len => k_is)
    (case bm_list => k_is)
    (case bm_range => k_is)
    (case bm_tuple => k_is)
    (case na_Rule_accepting => k_is)
    (case na_Rule_moves => k_is)
