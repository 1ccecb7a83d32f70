import PyProof.Rows.All
import Wide.All
import OpenK.AllK
import Wide.FinOn
import PyProof.ReprRoads
import HandS.ForMost
import HandS.ForExc
import HandS.TupAny
import HandS.IsInst
import HandS.Wide
import HandS.ExcSuper
import HandS.WrittenGet
import HandS.RaiseMore
import PyProof.AutoSeq1
import PySem.Challenge.RW_openrules_k97_written_and_read
set_option Elab.async false
set_option linter.all false
set_option maxRecDepth 100000
set_option maxHeartbeats 4000000
/-! MXCore: a layer over HandS in which a def is a plain function over data trees. -/
namespace MX
open PySem PySem.Spec PyProof.Rows L2

abbrev D := PyData
abbrev St := L2.St

/-- an exception: its class by its module name, its fields -/
structure Exn where
  cls : Str
  fld : List (Str × D)

inductive R (α : Type) where
  | ok (a : α) | exc (x : Exn) | stuck
def R.bind {α β : Type} : R α → (α → R β) → R β
  | .ok a, f => f a
  | .exc x, _ => .exc x
  | .stuck, _ => .stuck
/-- an operation that never raises -/
def R.opt {α β : Type} : Option α → (α → R β) → R β
  | some a, f => f a
  | none, _ => .stuck

/-- a changeable object that one name owns -/
inductive Ob where
  | ls (ds : List D)
/-- what a slot of the frame holds: nothing that matters, a value, an owned object (t: which parameter it came by), a list that is only read, a def -/
inductive Sl where
  | no | va (d : D) | ow (t : Option Nat) (o : Ob) | fz (ds : List D) | fn (x : Str)
/-- what an expression gives: a value, the object of slot i, a def, a fresh owned object, the list of slot i that is only read -/
inductive Av where
  | d (x : D) | b (i : Nat) | f (x : Str) | o (ob : Ob) | z (i : Nat)
/-- what a def gives back -/
inductive Rt where
  | d (x : D) | o (ob : Ob)
/-- what a def is given -/
inductive Ag where
  | d (x : D) | w (o : Ob) | f (x : Str) | z (ds : List D)

/-! ### data in the abstract heap; F: the lists that are never changed again -/
mutual
inductive Rep (K : PySem.W.Frag) (F : Addr → Prop) (H : Hp) : V → D → Prop
  | non : Rep K F H .non .none
  | bl (b : Bool) : Rep K F H (.bl b) (.bool b)
  | int (i : Int) : Rep K F H (.int i) (.int i)
  | str (x : Str) : Rep K F H (.str x) (.str x)
  | lst {a : Addr} {xs : List V} {ds : List D} : F a → H a = some (.lst xs) → RepL K F H xs ds → Rep K F H (.ref a) (.list ds)
  | tup {a : Addr} {xs : List V} {ds : List D} : SqT K H a xs → RepL K F H xs ds → Rep K F H (.ref a) (.tuple ds)
inductive RepL (K : PySem.W.Frag) (F : Addr → Prop) (H : Hp) : List V → List D → Prop
  | nil : RepL K F H [] []
  | cons {v : V} {vs : List V} {d : D} {ds : List D} : Rep K F H v d → RepL K F H vs ds → RepL K F H (v :: vs) (d :: ds)
end

section
variable {K : PySem.W.Frag} {F F' : Addr → Prop} {H H' : Hp}
theorem RepL.length : ∀ {xs : List V} {ds : List D}, RepL K F H xs ds → xs.length = ds.length
  | [], [], _ => rfl
  | _ :: _, _ :: _, .cons _ t => by rw [List.length_cons, List.length_cons, t.length]
theorem RepL.append : ∀ {xs ys : List V} {ds es : List D}, RepL K F H xs ds → RepL K F H ys es → RepL K F H (xs ++ ys) (ds ++ es)
  | [], _, [], _, _, s => s
  | _ :: _, _, _ :: _, _, .cons r t, s => .cons r (t.append s)
theorem RepL.get : ∀ {xs : List V} {ds : List D}, RepL K F H xs ds → ∀ {i : Nat} {x : V}, xs[i]? = some x → ∃ d, ds[i]? = some d ∧ Rep K F H x d
  | [], [], _, i, x, e => by simp at e
  | _ :: _, _ :: _, .cons r t, 0, x, e => by
    simp at e
    subst e
    exact ⟨_, rfl, r⟩
  | _ :: _, _ :: _, .cons r t, i + 1, x, e => by
    obtain ⟨d, h1, h2⟩ := t.get (i := i) (x := x) (by simpa using e)
    exact ⟨d, by simpa using h1, h2⟩
theorem RepL.getD : ∀ {xs : List V} {ds : List D}, RepL K F H xs ds → ∀ {i : Nat} {d : D}, ds[i]? = some d → ∃ x, xs[i]? = some x ∧ Rep K F H x d := fun {xs ds} r {i d} e => by
  have hl := r.length
  have hi : i < ds.length := (List.getElem?_eq_some_iff.mp e).1
  obtain ⟨d', h1, h2⟩ := r.get (i := i) (x := xs[i]'(by omega)) (List.getElem?_eq_getElem (by omega))
  rw [e] at h1
  cases h1
  exact ⟨_, List.getElem?_eq_getElem (by omega), h2⟩
theorem RepL.drop : ∀ (n : Nat) {xs : List V} {ds : List D}, RepL K F H xs ds → RepL K F H (xs.drop n) (ds.drop n)
  | 0, _, _, r => r
  | _ + 1, [], [], _ => .nil
  | n + 1, _ :: _, _ :: _, .cons _ t => RepL.drop n t
theorem RepL.take : ∀ (n : Nat) {xs : List V} {ds : List D}, RepL K F H xs ds → RepL K F H (xs.take n) (ds.take n)
  | 0, _, _, _ => .nil
  | _ + 1, [], [], _ => .nil
  | n + 1, _ :: _, _ :: _, .cons r t => .cons r (RepL.take n t)
theorem RepL.set {v : V} {d : D} (r : Rep K F H v d) : ∀ (n : Nat) {xs : List V} {ds : List D}, RepL K F H xs ds → RepL K F H (xs.set n v) (ds.set n d)
  | _, [], [], _ => .nil
  | 0, _ :: _, _ :: _, .cons _ t => .cons r t
  | n + 1, _ :: _, _ :: _, .cons q t => .cons q (RepL.set r n t)

mutual
theorem Rep.dp : ∀ {v : V} {d : D}, Rep K F H v d → Dp K H v d
  | _, _, .non => .non
  | _, _, .bl b => .bl b
  | _, _, .int i => .int i
  | _, _, .str x => .str x
  | _, _, .lst _ h t => .lst (SqL.of h) t.dp
  | _, _, .tup h t => .tup h t.dp
theorem RepL.dp : ∀ {vs : List V} {ds : List D}, RepL K F H vs ds → DpAll K H vs ds
  | _, _, .nil => .nil
  | _, _, .cons r t => .cons r.dp t.dp
end

/-- from (F, H) to (F', H'): all that O does not own is kept; lists that are newly fixed were new, or owned -/
structure Fr0 (O : Addr → Prop) (F : Addr → Prop) (H : Hp) (F' : Addr → Prop) (H' : Hp) : Prop where
  kp : ∀ a o, H a = some o → ¬ O a → H' a = some o
  f1 : ∀ a, F a → F' a
  f2 : ∀ a, F' a → F a ∨ H a = none ∨ O a
  tr : ∀ a, H' a = none → H a = none
theorem Fr0.refl (O : Addr → Prop) (F : Addr → Prop) (H : Hp) : Fr0 O F H F H := ⟨fun _ _ h _ => h, fun _ h => h, fun _ h => .inl h, fun _ h => h⟩
/-- what O owns may be changed and is not among F -/
def Own (O F : Addr → Prop) (H : Hp) : Prop := ∀ a, O a → ¬ F a ∧ Mut (H a)

theorem SqT.keep {O : Addr → Prop} (ho : Own O F H) (fr : Fr0 O F H F' H') {a : Addr} {xs : List V} (h : SqT K H a xs) : SqT K H' a xs := by
  have no : ∀ o, H a = some o → ¬ Mut (some o) → ¬ O a := fun o e m hO => m (e ▸ (ho a hO).2)
  rcases h with (h | ⟨o, h⟩) | h
  · exact .inl (.inl (fr.kp _ _ h (no _ h fun z => z)))
  · exact .inl (.inr ⟨o, fr.kp _ _ h (no _ h fun z => z)⟩)
  · exact .inr h
mutual
theorem Rep.keep {O : Addr → Prop} (ho : Own O F H) (fr : Fr0 O F H F' H') : ∀ {v : V} {d : D}, Rep K F H v d → Rep K F' H' v d
  | _, _, .non => .non
  | _, _, .bl b => .bl b
  | _, _, .int i => .int i
  | _, _, .str x => .str x
  | _, _, .lst f h t => .lst (fr.f1 _ f) (fr.kp _ _ h fun hO => (ho _ hO).1 f) (RepL.keep ho fr t)
  | _, _, .tup h t => .tup (SqT.keep ho fr h) (RepL.keep ho fr t)
theorem RepL.keep {O : Addr → Prop} (ho : Own O F H) (fr : Fr0 O F H F' H') : ∀ {vs : List V} {ds : List D}, RepL K F H vs ds → RepL K F' H' vs ds
  | _, _, .nil => .nil
  | _, _, .cons r t => .cons (Rep.keep ho fr r) (RepL.keep ho fr t)
end
end

/-! ### the frame's slots -/
/-- the entry of the def: its heap, the objects that came by parameters (by the parameter's number), the lists fixed then -/
structure Gh where
  H0 : Hp
  W : Nat → Option Addr
  F0 : Addr → Prop
structure SB (G : Gh) (F : Addr → Prop) (H : Hp) : Prop where
  fz : ∀ a, F a → ∃ xs, H a = some (.lst xs)
  wf : ∀ j a, G.W j = some a → ¬ F a
  wl : ∀ j a, G.W j = some a → Mut (H a)
  kp : ∀ a o, G.H0 a = some o → (∀ j, G.W j ≠ some a) → H a = some o
  f0 : ∀ a, G.F0 a → F a
  fn : ∀ a, F a → G.F0 a ∨ G.H0 a = none
  w0 : ∀ j a, G.W j = some a → G.H0 a ≠ none
  wi : ∀ i j a, G.W i = some a → G.W j = some a → i = j

def RepO (K : PySem.W.Frag) (F : Addr → Prop) (H : Hp) (a : Addr) : Ob → Prop
  | .ls ds => ∃ xs, H a = some (.lst xs) ∧ RepL K F H xs ds
theorem RepO.mut {K : PySem.W.Frag} {F : Addr → Prop} {H : Hp} {a : Addr} {o : Ob} (h : RepO K F H a o) : Mut (H a) := by
  cases o with
  | ls ds => obtain ⟨xs, e, _⟩ := h; rw [e]; exact trivial
/-- a list that stands locked, or in the module -/
def Fz (K : PySem.W.Frag) (H : Hp) (a : Addr) (xs : List V) : Prop := (∃ o, H a = some (.frz o (.lst xs))) ∨ SqL K (fun _ => none) a xs
theorem sqAny {K : PySem.W.Frag} {H : Hp} {a : Addr} {xs : List V} (h : SqL K (fun _ => none) a xs) : SqL K H a xs := by
  rcases h with (h | ⟨o, h⟩) | h
  · cases h
  · cases h
  · exact .inr h
theorem Fz.sq {K : PySem.W.Frag} {H : Hp} {a : Addr} {xs : List V} (h : Fz K H a xs) : SqL K H a xs := by
  rcases h with ⟨o, h⟩ | h
  · exact .inl (.inr ⟨o, h⟩)
  · exact sqAny h

def SlOk (K : PySem.W.Frag) (mg : Str → Option Value) (G : Gh) (F : Addr → Prop) (H : Hp) (u : Option V) : Sl → Prop
  | .no => True
  | .va d => ∃ v, u = some v ∧ Rep K F H v d
  | .ow t o => ∃ a, u = some (.ref a) ∧ RepO K F H a o ∧ ¬ F a ∧ (match t with | some j => G.W j = some a | none => G.H0 a = none)
  | .fz ds => ∃ a xs, u = some (.ref a) ∧ Fz K H a xs ∧ RepL K F H xs ds
  | .fn x => ∃ a, u = some (.ref a) ∧ mg x = some (.ref a)
def Ow (σ : St) (ρ : List Sl) (a : Addr) : Prop := ∃ (i : Nat) (t : Option Nat) (o : Ob), ρ[i]? = some (Sl.ow t o) ∧ σ[i]? = some (some (V.ref a))
structure SO (K : PySem.W.Frag) (mg : Str → Option Value) (G : Gh) (F : Addr → Prop) (H : Hp) (σ : St) (ρ : List Sl) : Prop where
  b : SB G F H
  len : σ.length = ρ.length
  sl : ∀ (i : Nat) (s : Sl), ρ[i]? = some s → ∃ u, σ[i]? = some u ∧ SlOk K mg G F H u s
  dj : ∀ (i j : Nat) (ti : Option Nat) (oi : Ob) (tj : Option Nat) (oj : Ob) (a : Addr), ρ[i]? = some (Sl.ow ti oi) → ρ[j]? = some (Sl.ow tj oj) → σ[i]? = some (some (V.ref a)) → σ[j]? = some (some (V.ref a)) → i = j

section
variable {K : PySem.W.Frag} {mg : Str → Option Value} {G : Gh} {F F' F2 : Addr → Prop} {H H' H2 : Hp} {σ : St} {ρ ρ' ρ2 : List Sl}
theorem SO.own (S : SO K mg G F H σ ρ) : Own (Ow σ ρ) F H := fun a ⟨i, t, o, h1, h2⟩ => by
  obtain ⟨u, e, x⟩ := S.sl i _ h1
  obtain ⟨a', e', r, nf, _⟩ := x
  rw [e'] at e
  rw [e] at h2
  cases h2
  exact ⟨nf, r.mut⟩
theorem Own.tracked {O : Addr → Prop} (h : Own O F H) {a : Addr} (x : O a) : H a ≠ none := fun e => by
  have := (h a x).2
  rw [e] at this
  exact this
theorem Fr0.trans {O O' : Addr → Prop} (h1 : Fr0 O F H F' H') (h2 : Fr0 O' F' H' F2 H2) (oo : ∀ a, O' a → O a ∨ H a = none) : Fr0 O F H F2 H2 where
  kp := fun a o e n => h2.kp a o (h1.kp a o e n) fun z => by
    rcases oo a z with q | q
    · exact n q
    · rw [e] at q; cases q
  f1 := fun a f => h2.f1 a (h1.f1 a f)
  f2 := fun a f => by
    rcases h2.f2 a f with q | q | q
    · exact h1.f2 a q
    · by_cases hO : O a
      · exact .inr (.inr hO)
      · cases e : H a with
        | none => exact .inr (.inl rfl)
        | some o => rw [h1.kp a o e hO] at q; cases q
    · rcases oo a q with q | q
      · exact .inr (.inr q)
      · exact .inr (.inl q)
  tr := fun a h => h1.tr a (h2.tr a h)

/-- the frame of an expression: the slots' values stay -/
structure Fm (σ : St) (ρ : List Sl) (F : Addr → Prop) (H : Hp) (ρ' : List Sl) (F' : Addr → Prop) (H' : Hp) : Prop where
  fr : Fr0 (Ow σ ρ) F H F' H'
  ow : ∀ a, Ow σ ρ' a → Ow σ ρ a ∨ H a = none
theorem Fm.refl (σ : St) (ρ : List Sl) (F : Addr → Prop) (H : Hp) : Fm σ ρ F H ρ F H := ⟨.refl _ _ _, fun _ h => .inl h⟩
theorem Fm.trans (h1 : Fm σ ρ F H ρ' F' H') (h2 : Fm σ ρ' F' H' ρ2 F2 H2) : Fm σ ρ F H ρ2 F2 H2 :=
  ⟨h1.fr.trans h2.fr h1.ow, fun a z => (h2.ow a z).elim (h1.ow a) fun q => .inr (h1.fr.tr a q)⟩
/-- the frame of a statement -/
structure Fs (σ : St) (ρ : List Sl) (F : Addr → Prop) (H : Hp) (σ' : St) (ρ' : List Sl) (F' : Addr → Prop) (H' : Hp) : Prop where
  fr : Fr0 (Ow σ ρ) F H F' H'
  ow : ∀ a, Ow σ' ρ' a → Ow σ ρ a ∨ H a = none
theorem Fs.refl (σ : St) (ρ : List Sl) (F : Addr → Prop) (H : Hp) : Fs σ ρ F H σ ρ F H := ⟨.refl _ _ _, fun _ h => .inl h⟩
theorem Fm.fs (h : Fm σ ρ F H ρ' F' H') : Fs σ ρ F H σ ρ' F' H' := ⟨h.fr, h.ow⟩
theorem Fs.trans {σ' σ2 : St} (h1 : Fs σ ρ F H σ' ρ' F' H') (h2 : Fs σ' ρ' F' H' σ2 ρ2 F2 H2) : Fs σ ρ F H σ2 ρ2 F2 H2 :=
  ⟨h1.fr.trans h2.fr h1.ow, fun a z => by
    rcases h2.ow a z with q | q
    · exact h1.ow a q
    · by_cases hO : Ow σ ρ a
      · exact .inl hO
      · cases e : H a with
        | none => exact .inr rfl
        | some o => rw [h1.fr.kp a o e hO] at q; cases q⟩

/-- heap and fixed lists only grow -/
structure Ext (F : Addr → Prop) (H : Hp) (F' : Addr → Prop) (H' : Hp) : Prop where
  kp : ∀ a o, H a = some o → H' a = some o
  f1 : ∀ a, F a → F' a
  f2 : ∀ a, F' a → F a ∨ H a = none
  f3 : ∀ a, F' a → ∃ xs, H' a = some (.lst xs)
theorem Ext.fr {O : Addr → Prop} (x : Ext F H F' H') : Fr0 O F H F' H' := ⟨fun a o e _ => x.kp a o e, x.f1, fun a f => (x.f2 a f).elim .inl fun q => .inr (.inl q), fun a h => by
  cases e : H a with
  | none => rfl
  | some o => rw [x.kp a o e] at h; cases h⟩
theorem Ext.fm (x : Ext F H F' H') : Fm σ ρ F H ρ F' H' := ⟨x.fr, fun _ h => .inl h⟩
theorem Ext.refl (fz : ∀ a, F a → ∃ xs, H a = some (.lst xs)) : Ext F H F H := ⟨fun _ _ h => h, fun _ h => h, fun _ h => .inl h, fz⟩
theorem RepO.keep {O : Addr → Prop} (ho : Own O F H) (fr : Fr0 O F H F' H') {a : Addr} (n : ¬ O a) : ∀ {o : Ob}, RepO K F H a o → RepO K F' H' a o
  | .ls _, ⟨xs, e, r⟩ => ⟨xs, fr.kp _ _ e n, r.keep ho fr⟩
theorem own_none : Own (fun _ => False) F H := fun _ z => z.elim
theorem Fz.keep {O : Addr → Prop} (ho : Own O F H) (fr : Fr0 O F H F' H') {a : Addr} {xs : List V} (h : Fz K H a xs) : Fz K H' a xs := by
  rcases h with ⟨o, h⟩ | h
  · exact .inl ⟨o, fr.kp _ _ h fun z => by have := (ho a z).2; rw [h] at this; exact this⟩
  · exact .inr h
theorem SB.ext (b : SB G F H) (x : Ext F H F' H') : SB G F' H' where
  fz := x.f3
  wf := fun j a e f => by
    rcases x.f2 a f with q | q
    · exact b.wf j a e q
    · have := b.wl j a e; rw [q] at this; exact this
  wl := fun j a e => by
    have h := b.wl j a e
    cases q : H a with
    | none => rw [q] at h; exact h.elim
    | some o => rw [x.kp a o q]; rw [q] at h; exact h
  kp := fun a o e n => x.kp a o (b.kp a o e n)
  f0 := fun a f => x.f1 a (b.f0 a f)
  fn := fun a f => by
    rcases x.f2 a f with q | q
    · exact b.fn a q
    · cases e : G.H0 a with
      | none => exact .inr rfl
      | some o =>
        by_cases hw : ∃ j, G.W j = some a
        · obtain ⟨j, hj⟩ := hw
          have := b.wl j a hj; rw [q] at this; exact this.elim
        · rw [b.kp a o e fun j hj => hw ⟨j, hj⟩] at q; cases q
  w0 := b.w0
  wi := b.wi
theorem SlOk.keep {O : Addr → Prop} (ho : Own O F H) (fr : Fr0 O F H F' H') {u : Option V} {s : Sl} (hs : ∀ t o, s ≠ .ow t o) (h : SlOk K mg G F H u s) : SlOk K mg G F' H' u s := by
  cases s with
  | no => trivial
  | va d => obtain ⟨v, e, r⟩ := h; exact ⟨v, e, r.keep ho fr⟩
  | ow t o => exact absurd rfl (hs t o)
  | fz ds => obtain ⟨a, xs, e, f, r⟩ := h; exact ⟨a, xs, e, f.keep ho fr, r.keep ho fr⟩
  | fn x => exact h
theorem SO.ext (S : SO K mg G F H σ ρ) (x : Ext F H F' H') : SO K mg G F' H' σ ρ where
  b := S.b.ext x
  len := S.len
  sl := fun i s e => by
    obtain ⟨u, e1, h⟩ := S.sl i s e
    refine ⟨u, e1, ?_⟩
    cases s with
    | ow t o =>
      obtain ⟨a, e2, r, nf, k⟩ := h
      refine ⟨a, e2, r.keep own_none x.fr (fun z => z), fun f => ?_, k⟩
      rcases x.f2 a f with q | q
      · exact nf q
      · have := r.mut; rw [q] at this; exact this
    | no => trivial
    | va d => exact h.keep own_none x.fr (by simp)
    | fz d => exact h.keep own_none x.fr (by simp)
    | fn d => exact h
  dj := S.dj
/-- a new address -/
theorem Ext.new {p : Addr} {o : HO} (b : ∀ a, F a → ∃ xs, H a = some (.lst xs)) (hp : H p = none) : Ext F H F (upd H p o) :=
  ⟨fun a u e => by rw [upd_ne (ne_of_none e hp)]; exact e, fun _ h => h, fun _ h => .inl h, fun a f => by
    obtain ⟨xs, e⟩ := b a f
    exact ⟨xs, by rw [upd_ne (ne_of_none e hp)]; exact e⟩⟩
/-- a new list, fixed at once -/
theorem Ext.newF {p : Addr} {xs : List V} (b : ∀ a, F a → ∃ xs, H a = some (.lst xs)) (hp : H p = none) : Ext F H (fun a => F a ∨ a = p) (upd H p (.lst xs)) :=
  ⟨fun a u e => by rw [upd_ne (ne_of_none e hp)]; exact e, fun _ h => .inl h, fun a h => h.elim .inl fun e => .inr (e ▸ hp), fun a f => by
    rcases f with f | rfl
    · obtain ⟨ys, e⟩ := b a f
      exact ⟨ys, by rw [upd_ne (ne_of_none e hp)]; exact e⟩
    · exact ⟨xs, upd_same⟩⟩
theorem Ext.trans (x : Ext F H F' H') (y : Ext F' H' F2 H2) : Ext F H F2 H2 :=
  ⟨fun a o e => y.kp a o (x.kp a o e), fun a f => y.f1 a (x.f1 a f), fun a f => by
    rcases y.f2 a f with q | q
    · exact x.f2 a q
    · cases e : H a with
      | none => exact .inr rfl
      | some o => exact absurd q (by rw [x.kp a o e]; simp), y.f3⟩
end
end MX

set_option Elab.async false
set_option linter.all false
set_option maxRecDepth 100000
set_option maxHeartbeats 4000000
/-! MXLogic: what it means that an expression, a test, a block runs as the plain code m; names, constants, operators, calls of built-ins. -/
namespace MX
open PySem PySem.Spec PyProof.Rows L2

/-- the place: HandS's context, the entry, what is wanted of an exception -/
structure Cm where
  X : Cx
  G : Gh
  E : XK
abbrev Cm.S (C : Cm) (F : Addr → Prop) (H : Hp) (σ : St) (ρ : List Sl) : Prop := SO C.X.K C.X.mg C.G F H σ ρ

def RepF (K : PySem.W.Frag) (F : Addr → Prop) (H : Hp) : List (Str × V) → List (Str × D) → Prop
  | [], [] => True
  | (f, v) :: r, (g, d) :: s => f = g ∧ Rep K F H v d ∧ RepF K F H r s
  | _, _ => False
def RepX (K : PySem.W.Frag) (mg : Str → Option Value) (F : Addr → Prop) (H : Hp) (x : Exn) (c : Value) (d : Option Addr) : Prop :=
  ∃ ca, mg x.cls = some (.ref ca) ∧ c = .ref ca ∧ ((x.fld = [] ∧ d = none) ∨ ∃ dd fs, d = some dd ∧ H dd = some (.xd fs) ∧ RepF K F H fs x.fld)
def ExOk (C : Cm) (x : Exn) : Prop := ∀ F H c d, SB C.G F H → RepX C.X.K C.X.mg F H x c d → C.E c d H
def Good (C : Cm) {β : Type} : R β → Prop
  | .ok _ => True
  | .exc x => ExOk C x
  | .stuck => False
theorem Good.bind {C : Cm} {α β : Type} {m : R α} {k : α → R β} (g : Good C (R.bind m k)) : Good C m := by
  cases m with
  | ok a => trivial
  | exc x => exact g
  | stuck => exact g

/-- what makes an expression, a test, a block, a target, an iterable end so -/
def tw (X : Cx) (e : Expr) : TE := fun σ H Q => ∃ t, PE X e t ∧ t σ H Q
theorem pe_tw {X : Cx} {e : Expr} : PE X e (tw X e) := ⟨fun pins s σ H Q I ⟨_, ht, hq⟩ => ht.run pins s σ H Q I hq⟩
def twT (X : Cx) (e : Expr) : TT := fun σ H Q => ∃ t, PT X e t ∧ t σ H Q
theorem pt_tw {X : Cx} {e : Expr} : PT X e (twT X e) := ⟨fun pins s σ H Q I ⟨_, ht, hq⟩ => ht.run pins s σ H Q I hq⟩
def twA (X : Cx) (es : List Expr) : TA := fun σ H Q => ∃ t, PA X es t ∧ t σ H Q
theorem pa_tw {X : Cx} {es : List Expr} : PA X es (twA X es) := ⟨fun pos pins s σ H Q I ⟨_, ht, hq⟩ => ht.run pos pins s σ H Q I hq⟩
def tw1 (X : Cx) (st : Stmt) : TS := fun D σ H => ∃ t, PS X st t ∧ t D σ H
theorem ps_tw {X : Cx} {st : Stmt} : PS X st (tw1 X st) := ⟨fun pins s σ H D I ⟨_, ht, hq⟩ => ht.run pins s σ H D I hq⟩
def twS (X : Cx) (st : List Stmt) : TS := fun D σ H => ∃ t, PSs X st t ∧ t D σ H
theorem pss_tw {X : Cx} {st : List Stmt} : PSs X st (twS X st) := ⟨fun pins s σ H D I ⟨_, ht, hq⟩ => ht.run pins s σ H D I hq⟩
def twG (X : Cx) (e : Expr) : TG := fun v σ H Q => ∃ t, PG X e t ∧ t v σ H Q
theorem pg_tw {X : Cx} {e : Expr} : PG X e (twG X e) := ⟨fun pins s σ H v u Q I r ⟨_, ht, hq⟩ => ht.run pins s σ H v u Q I r hq⟩
def twI (X : Cx) (tg e : Expr) : TI := fun σ H Rr => ∃ t, PI X tg e t ∧ t σ H Rr
theorem pi_tw {X : Cx} {tg e : Expr} : PI X tg e (twI X tg e) := ⟨fun pins s σ H Rr I ⟨_, ht, hq⟩ => ht.run pins s σ H Rr I hq⟩
def rwB (X : Cx) (f : Value → Value → Sem Value) : R2 := fun x y H Q => ∃ r, OpR X f r ∧ r x y H Q
theorem opr_any {X : Cx} {f : Value → Value → Sem Value} : OpR X f (rwB X f) := fun pins s σ H x y v u Q I rx ry ⟨_, hr, q⟩ => hr pins s σ H x y v u Q I rx ry q
def rwC (X : Cx) (f : Value) : List V → Hp → VK → Prop := fun xs H Q => ∃ r, CallR X f r ∧ r xs H Q
theorem callr_any {X : Cx} {f : Value} : CallR X f (rwC X f) := fun pins s σ H xs us Q I rx ⟨_, hr, q⟩ => hr pins s σ H xs us Q I rx q
def rwI (X : Cx) : R2 := fun x y H Q => ∃ r, IxR X r ∧ r x y H Q
theorem ixr_any {X : Cx} : IxR X (rwI X) := fun a b pins s σ H x y v u Q I rx ry ⟨_, hr, q⟩ hs => hr a b pins s σ H x y v u Q I rx ry q hs
def rwL (X : Cx) : V → Option Int → Option Int → Hp → VK → Prop := fun x lo hi H Q => ∃ r, SlR X r ∧ r x lo hi H Q
theorem slr_any {X : Cx} : SlR X (rwL X) := fun pins s σ H x v vl vu lo hi sl Q I rx hs pl pu ⟨_, hr, q⟩ => hr pins s σ H x v vl vu lo hi sl Q I rx hs pl pu q

/-- the value x of an expression, when the slots hold σ -/
def RepA (K : PySem.W.Frag) (mg : Str → Option Value) (G : Gh) (Hs : Hp) (F : Addr → Prop) (H : Hp) (σ : St) (ρ : List Sl) (v : V) : Av → Prop
  | .d x => Rep K F H v x
  | .b i => σ[i]? = some (some v)
  | .z i => σ[i]? = some (some v)
  | .f x => ∃ a, v = .ref a ∧ mg x = some (.ref a)
  | .o ob => ∃ a, v = .ref a ∧ RepO K F H a ob ∧ ¬ F a ∧ G.H0 a = none ∧ ¬ Ow σ ρ a ∧ Hs a = none
section
variable {K : PySem.W.Frag} {mg : Str → Option Value} {G : Gh} {F F' : Addr → Prop} {H H' Hs Hb : Hp} {σ : St} {ρ ρ' : List Sl} {v : V}
theorem RepA.back (tr : ∀ a, Hs a = none → Hb a = none) : ∀ {x : Av}, RepA K mg G Hs F H σ ρ v x → RepA K mg G Hb F H σ ρ v x
  | .d _, h => h
  | .b _, h => h
  | .z _, h => h
  | .f _, h => h
  | .o _, ⟨a, e, r, nf, g, no, hs⟩ => ⟨a, e, r, nf, g, no, tr a hs⟩
theorem RepA.keep (S : SO K mg G F H σ ρ) (fm : Fm σ ρ F H ρ' F' H') : ∀ {x : Av}, RepA K mg G Hs F H σ ρ v x → RepA K mg G Hs F' H' σ ρ' v x
  | .d _, h => Rep.keep S.own fm.fr h
  | .b _, h => h
  | .z _, h => h
  | .f _, h => h
  | .o ob, ⟨a, e, r, nf, g, no, hs⟩ => ⟨a, e, r.keep S.own fm.fr no, fun f => by
      rcases fm.fr.f2 a f with q | q | q
      · exact nf q
      · have := r.mut; rw [q] at this; exact this
      · exact no q, g, fun z => (fm.ow a z).elim no fun q => by have := r.mut; rw [q] at this; exact this, hs⟩
/-- a value that is read now -/
def Now (K : PySem.W.Frag) (F : Addr → Prop) (H : Hp) (v : V) : D → Prop
  | .list ds => ∃ a xs, v = .ref a ∧ SqL K H a xs ∧ RepL K F H xs ds
  | .none => v = .non
  | .bool b => v = .bl b
  | .int i => v = .int i
  | .str x => v = .str x
  | .tuple ds => ∃ a xs, v = .ref a ∧ SqT K H a xs ∧ RepL K F H xs ds
  | .dict _ => False
/-- .. a list is tracked -/
def NowT (K : PySem.W.Frag) (F : Addr → Prop) (H : Hp) (v : V) : D → Prop
  | .list ds => ∃ a xs, v = .ref a ∧ H a = some (.lst xs) ∧ RepL K F H xs ds
  | d => Now K F H v d
theorem Rep.nowT : ∀ {d : D}, Rep K F H v d → NowT K F H v d
  | _, .non => rfl
  | _, .bl _ => rfl
  | _, .int _ => rfl
  | _, .str _ => rfl
  | _, .lst _ h t => ⟨_, _, rfl, h, t⟩
  | _, .tup h t => ⟨_, _, rfl, h, t⟩
theorem NowT.now : ∀ {d : D}, NowT K F H v d → Now K F H v d
  | .none, h => h
  | .bool _, h => h
  | .int _, h => h
  | .str _, h => h
  | .list _, ⟨a, xs, e, h, t⟩ => ⟨a, xs, e, SqL.of h, t⟩
  | .tuple _, h => h
  | .dict _, h => h
theorem Rep.now {d : D} (h : Rep K F H v d) : Now K F H v d := h.nowT.now
theorem Now.dp : ∀ {d : D}, Now K F H v d → Dp K H v d
  | .none, h => by cases h; exact .non
  | .bool _, h => by cases h; exact .bl _
  | .int _, h => by cases h; exact .int _
  | .str _, h => by cases h; exact .str _
  | .list _, ⟨a, xs, e, h, t⟩ => by cases e; exact .lst h t.dp
  | .tuple _, ⟨a, xs, e, h, t⟩ => by cases e; exact .tup h t.dp
  | .dict _, h => h.elim
def viewT (ρ : List Sl) : Av → Option D
  | .d x => some x
  | .b i => match ρ[i]? with
    | some (.ow _ (.ls ds)) => some (.list ds)
    | some (.va (.list ds)) => some (.list ds)
    | _ => none
  | .o (.ls ds) => some (.list ds)
  | .f _ => none
  | .z _ => none
def view (ρ : List Sl) : Av → Option D
  | .d x => some x
  | .b i => match ρ[i]? with
    | some (.ow _ (.ls ds)) => some (.list ds)
    | some (.va (.list ds)) => some (.list ds)
    | _ => none
  | .o (.ls ds) => some (.list ds)
  | .f _ => none
  | .z i => match ρ[i]? with
    | some (.fz ds) => some (.list ds)
    | _ => none
theorem RepA.nowT (S : SO K mg G F H σ ρ) {x : Av} {d : D} (h : RepA K mg G Hs F H σ ρ v x) (e : viewT ρ x = some d) : NowT K F H v d := by
  cases x with
  | d y => cases e; exact Rep.nowT h
  | b i =>
    have h : σ[i]? = some (some v) := h
    unfold viewT at e
    dsimp only at e
    split at e
    · rename_i t ds q
      cases e
      obtain ⟨u, e1, a, e2, ⟨xs, e3, r⟩, _⟩ := S.sl i _ q
      rw [h] at e1; cases e1; cases e2
      exact ⟨a, xs, rfl, e3, r⟩
    · rename_i ds q
      cases e
      obtain ⟨u, e1, w, e2, r⟩ := S.sl i _ q
      rw [h] at e1; cases e1; cases e2
      exact r.nowT
    · cases e
  | f y => cases e
  | z i => cases e
  | o ob =>
    cases ob with
    | ls ds =>
      cases e
      obtain ⟨a, e1, ⟨xs, e3, r⟩, _⟩ := h
      exact ⟨a, xs, e1, e3, r⟩
theorem RepA.now (S : SO K mg G F H σ ρ) {x : Av} {d : D} (h : RepA K mg G Hs F H σ ρ v x) (e : view ρ x = some d) : Now K F H v d := by
  cases x with
  | d y => cases e; exact Rep.now h
  | b i =>
    have h : σ[i]? = some (some v) := h
    unfold view at e
    dsimp only at e
    split at e
    · rename_i t ds q
      cases e
      obtain ⟨u, e1, a, e2, ⟨xs, e3, r⟩, _⟩ := S.sl i _ q
      rw [h] at e1; cases e1; cases e2
      exact ⟨a, xs, rfl, SqL.of e3, r⟩
    · rename_i ds q
      cases e
      obtain ⟨u, e1, w, e2, r⟩ := S.sl i _ q
      rw [h] at e1; cases e1; cases e2
      exact r.now
    · cases e
  | z i =>
    have h : σ[i]? = some (some v) := h
    unfold view at e
    dsimp only at e
    split at e
    · rename_i ds q
      cases e
      obtain ⟨u, e1, a, xs, e2, f, r⟩ := S.sl i _ q
      rw [h] at e1; cases e1; cases e2
      exact ⟨a, xs, rfl, f.sq, r⟩
    · cases e
  | f y => cases e
  | o ob =>
    cases ob with
    | ls ds =>
      cases e
      obtain ⟨a, e1, ⟨xs, e3, r⟩, _⟩ := h
      exact ⟨a, xs, e1, SqL.of e3, r⟩
end

/-! ### the judgements -/
section
variable (C : Cm) {β : Type}
def PEk (e : Expr) (ρ : List Sl) (m : R β) (Φ : Av → List Sl → R β → Prop) : Prop :=
  Good C m → ∀ (σ : St) (H : Hp) (Q : VK) (F : Addr → Prop), C.S F H σ ρ →
    (∀ x ρ' F' H' v, Φ x ρ' m → C.S F' H' σ ρ' → Fm σ ρ F H ρ' F' H' → RepA C.X.K C.X.mg C.G H F' H' σ ρ' v x → Q v H') → tw C.X e σ H Q
def PTk (e : Expr) (ρ : List Sl) (m : R β) (Φ : Bool → List Sl → R β → Prop) : Prop :=
  Good C m → ∀ (σ : St) (H : Hp) (Q : Bool → Hp → Prop) (F : Addr → Prop), C.S F H σ ρ →
    (∀ c ρ' F' H', Φ c ρ' m → C.S F' H' σ ρ' → Fm σ ρ F H ρ' F' H' → Q c H') → twT C.X e σ H Q
def RepAs (K : PySem.W.Frag) (mg : Str → Option Value) (G : Gh) (Hs : Hp) (F : Addr → Prop) (H : Hp) (σ : St) (ρ : List Sl) : List V → List Av → Prop
  | [], [] => True
  | v :: vs, x :: xs => RepA K mg G Hs F H σ ρ v x ∧ RepAs K mg G Hs F H σ ρ vs xs
  | _, _ => False
def PAk (es : List Expr) (ρ : List Sl) (m : R β) (Φ : List Av → List Sl → R β → Prop) : Prop :=
  Good C m → ∀ (σ : St) (H : Hp) (Q : List V → Hp → Prop) (F : Addr → Prop), C.S F H σ ρ →
    (∀ xs ρ' F' H' vs, Φ xs ρ' m → C.S F' H' σ ρ' → Fm σ ρ F H ρ' F' H' → RepAs C.X.K C.X.mg C.G H F' H' σ ρ' vs xs → Q vs H') → twA C.X es σ H Q
def RepR (K : PySem.W.Frag) (G : Gh) (F : Addr → Prop) (H : Hp) (v : V) : Rt → Prop
  | .d x => Rep K F H v x
  | .o ob => ∃ a, v = .ref a ∧ RepO K F H a ob ∧ ¬ F a ∧ G.H0 a = none
structure Psi (β : Type) where
  nx : List Sl → R β → Prop
  rt : Rt → List Sl → R β → Prop
  bk : List Sl → R β → Prop := fun _ _ => False
  ct : List Sl → R β → Prop := fun _ _ => False
structure Ends' (Ψ : Psi β) (m : R β) (D : Ends) (σ : St) (ρ : List Sl) (F : Addr → Prop) (H : Hp) : Prop where
  nx : ∀ ρ' F' H' σ', Ψ.nx ρ' m → C.S F' H' σ' ρ' → Fs σ ρ F H σ' ρ' F' H' → D.nx σ' H'
  rt : ∀ r ρ' F' H' σ' v, Ψ.rt r ρ' m → C.S F' H' σ' ρ' → Fs σ ρ F H σ' ρ' F' H' → RepR C.X.K C.G F' H' v r → D.rt v H'
  bk : ∀ ρ' F' H' σ', Ψ.bk ρ' m → C.S F' H' σ' ρ' → Fs σ ρ F H σ' ρ' F' H' → D.bk σ' H'
  ct : ∀ ρ' F' H' σ', Ψ.ct ρ' m → C.S F' H' σ' ρ' → Fs σ ρ F H σ' ρ' F' H' → D.ct σ' H'
def PS1 (st : Stmt) (ρ : List Sl) (m : R β) (Ψ : Psi β) : Prop :=
  Good C m → ∀ (D : Ends) (σ : St) (H : Hp) (F : Addr → Prop), C.S F H σ ρ → Ends' C Ψ m D σ ρ F H → tw1 C.X st D σ H
def PSk (st : List Stmt) (ρ : List Sl) (m : R β) (Ψ : Psi β) : Prop :=
  Good C m → ∀ (D : Ends) (σ : St) (H : Hp) (F : Addr → Prop), C.S F H σ ρ → Ends' C Ψ m D σ ρ F H → twS C.X st D σ H
end

section
variable {C : Cm} {β : Type} {ρ : List Sl} {m : R β} {pos : Pos}
/-! ### names and constants -/
section
variable {Φ : Av → List Sl → R β → Prop} {x : Str}
theorem pek_va (i : Nat) {d : D} (h : Φ (.d d) ρ m) (hρ : ρ[i]? = some (.va d) := by rfl) (hN : C.X.N[i]? = some x := by rfl) (hv : Vis C.X.env.scope x := by first | exact Or.inl rfl | exact Or.inr (Or.inl rfl) | exact Or.inr (Or.inr rfl)) (hd : (x == ("__debug__" : Str)) = false := by decide)
    (hcd : (x == ("__classdict__" : Str)) = false := by decide) : PEk C (.Name x pos) ρ m Φ := fun _ σ H Q F S k => by
  obtain ⟨u, e, v, e2, r⟩ := S.sl i _ hρ
  subst e2
  exact ⟨_, pe_var hN hv hd hcd, v, e, k _ _ F H v h S (.refl _ _ _ _) r⟩
theorem pek_ow (i : Nat) {t : Option Nat} {o : Ob} (h : Φ (.b i) ρ m) (hρ : ρ[i]? = some (.ow t o) := by rfl) (hN : C.X.N[i]? = some x := by rfl) (hv : Vis C.X.env.scope x := by first | exact Or.inl rfl | exact Or.inr (Or.inl rfl) | exact Or.inr (Or.inr rfl)) (hd : (x == ("__debug__" : Str)) = false := by decide)
    (hcd : (x == ("__classdict__" : Str)) = false := by decide) : PEk C (.Name x pos) ρ m Φ := fun _ σ H Q F S k => by
  obtain ⟨u, e, a, e2, _⟩ := S.sl i _ hρ
  subst e2
  exact ⟨_, pe_var hN hv hd hcd, _, e, k _ _ F H _ h S (.refl _ _ _ _) e⟩
theorem pek_fz (i : Nat) {ds : List D} (h : Φ (.z i) ρ m) (hρ : ρ[i]? = some (.fz ds) := by rfl) (hN : C.X.N[i]? = some x := by rfl) (hv : Vis C.X.env.scope x := by first | exact Or.inl rfl | exact Or.inr (Or.inl rfl) | exact Or.inr (Or.inr rfl)) (hd : (x == ("__debug__" : Str)) = false := by decide)
    (hcd : (x == ("__classdict__" : Str)) = false := by decide) : PEk C (.Name x pos) ρ m Φ := fun _ σ H Q F S k => by
  obtain ⟨u, e, a, xs, e2, _⟩ := S.sl i _ hρ
  subst e2
  exact ⟨_, pe_var hN hv hd hcd, _, e, k _ _ F H _ h S (.refl _ _ _ _) e⟩
theorem pek_fnS (i : Nat) {y : Str} (h : Φ (.f y) ρ m) (hρ : ρ[i]? = some (.fn y) := by rfl) (hN : C.X.N[i]? = some x := by rfl) (hv : Vis C.X.env.scope x := by first | exact Or.inl rfl | exact Or.inr (Or.inl rfl) | exact Or.inr (Or.inr rfl)) (hd : (x == ("__debug__" : Str)) = false := by decide)
    (hcd : (x == ("__classdict__" : Str)) = false := by decide) : PEk C (.Name x pos) ρ m Φ := fun _ σ H Q F S k => by
  obtain ⟨u, e, a, e2, r⟩ := S.sl i _ hρ
  subst e2
  exact ⟨_, pe_var hN hv hd hcd, _, e, k _ _ F H _ h S (.refl _ _ _ _) ⟨a, rfl, r⟩⟩
/-- the list that a name owns is fixed from here on -/
theorem set_ow {σ : St} {F F' : Addr → Prop} {H H' : Hp} {i : Nat} {s : Sl} {a : Addr} : Ow σ (ρ.set i s) a → (∀ t o, s ≠ .ow t o) → Ow σ ρ a := fun ⟨j, t, o, e1, e2⟩ hs => by
  by_cases q : i = j
  · subst q
    by_cases hi : i < ρ.length
    · rw [List.getElem?_set_self hi] at e1
      exact absurd (Option.some.inj e1) (hs t o)
    · rw [List.getElem?_eq_none (by simpa using hi)] at e1
      cases e1
  · rw [List.getElem?_set_ne q] at e1
    exact ⟨j, t, o, e1, e2⟩
theorem pek_freeze (i : Nat) {ds : List D} (h : Φ (.d (.list ds)) (ρ.set i (.va (.list ds))) m) (hρ : ρ[i]? = some (.ow none (.ls ds)) := by rfl) (hN : C.X.N[i]? = some x := by rfl) (hv : Vis C.X.env.scope x := by first | exact Or.inl rfl | exact Or.inr (Or.inl rfl) | exact Or.inr (Or.inr rfl)) (hd : (x == ("__debug__" : Str)) = false := by decide)
    (hcd : (x == ("__classdict__" : Str)) = false := by decide) : PEk C (.Name x pos) ρ m Φ := fun _ σ H Q F S k => by
  have S0 := S
  obtain ⟨u, e, a, e2, ⟨xs, e3, r⟩, nf, g0⟩ := S.sl i _ hρ
  have g0 : C.G.H0 a = none := g0
  subst e2
  have hi : i < ρ.length := (List.getElem?_eq_some_iff.mp hρ).1
  have hOa : Ow σ ρ a := ⟨i, none, .ls ds, hρ, e⟩
  have fr : Fr0 (fun b => b = a) F H (fun b => F b ∨ b = a) H := ⟨fun _ _ q _ => q, fun _ f => .inl f, fun b f => f.elim .inl fun q => .inr (.inr q), fun _ h => h⟩
  have ho : Own (fun b => b = a) F H := fun b q => by subst q; exact ⟨nf, by rw [e3]; trivial⟩
  have nw : ∀ j, C.G.W j ≠ some a := fun j q => S.b.w0 j a q g0
  have r' := r.keep ho fr
  refine ⟨_, pe_var hN hv hd hcd, _, e, k _ _ (fun b => F b ∨ b = a) H _ h ⟨⟨?_, ?_, S.b.wl, S.b.kp, fun b f => .inl (S.b.f0 b f), ?_, S.b.w0, S.b.wi⟩, by rw [List.length_set]; exact S.len, ?_, ?_⟩ ⟨⟨fun _ _ q _ => q, fun _ f => .inl f, fun b f => f.elim .inl fun q => .inr (.inr (q ▸ hOa)), fun _ h => h⟩, fun b z => .inl (set_ow (F := F) (F' := F) (H := H) (H' := H) z (by simp))⟩ (.lst (.inr rfl) e3 r')⟩
  · rintro b (f | rfl)
    · exact S.b.fz b f
    · exact ⟨xs, e3⟩
  · rintro j b w (f | rfl)
    · exact S.b.wf j b w f
    · exact nw j w
  · rintro b (f | rfl)
    · exact S.b.fn b f
    · exact .inr g0
  · intro j s hj
    by_cases q : i = j
    · subst q
      rw [List.getElem?_set_self hi] at hj
      cases hj
      exact ⟨_, e, _, rfl, .lst (.inr rfl) e3 r'⟩
    · rw [List.getElem?_set_ne q] at hj
      obtain ⟨w, hw, ok⟩ := S.sl j s hj
      refine ⟨w, hw, ?_⟩
      cases s with
      | no => trivial
      | va d => exact ok.keep ho fr (by simp)
      | fz d => exact ok.keep ho fr (by simp)
      | fn d => exact ok
      | ow t o =>
        obtain ⟨b, eb, rb, nb, kb⟩ := ok
        have hba : b ≠ a := fun z => by
          subst z; subst eb
          exact q (S0.dj i j _ _ _ _ b hρ hj e hw)
        exact ⟨b, eb, rb.keep ho fr hba, fun f => f.elim nb hba, kb⟩
  · intro j l tj oj tl ol b h1 h2 h3 h4
    have old : ∀ {l : Nat} {t o}, (ρ.set i (Sl.va (.list ds)))[l]? = some (.ow t o) → ρ[l]? = some (.ow t o) := fun {l t o} hl => by
      by_cases q : i = l
      · subst q; rw [List.getElem?_set_self hi] at hl; cases hl
      · rw [List.getElem?_set_ne q] at hl; exact hl
    exact S.dj j l _ _ _ _ b (old h1) (old h2) h3 h4
theorem pek_int {i : Int} {j : Nat} (h : Φ (.d (.int i)) ρ m) : PEk C (.Constant (.int i) j pos) ρ m Φ := fun _ σ H Q F S k => ⟨_, pe_int, k _ _ F H _ h S (.refl _ _ _ _) (.int i)⟩
theorem pek_str {y : Str} {j : Nat} (h : Φ (.d (.str y)) ρ m) : PEk C (.Constant (.str y) j pos) ρ m Φ := fun _ σ H Q F S k => ⟨_, pe_str, k _ _ F H _ h S (.refl _ _ _ _) (.str y)⟩
theorem pek_bl {b : Bool} {j : Nat} (h : Φ (.d (.bool b)) ρ m) : PEk C (.Constant (.bool b) j pos) ρ m Φ := fun _ σ H Q F S k => ⟨_, pe_bl, k _ _ F H _ h S (.refl _ _ _ _) (.bl b)⟩
theorem pek_non {j : Nat} (h : Φ (.d .none) ρ m) : PEk C (.Constant .none j pos) ρ m Φ := fun _ σ H Q F S k => ⟨_, pe_non, k _ _ F H _ h S (.refl _ _ _ _) .non⟩
/-- a name of the module that holds data -/
structure Cst (K : PySem.W.Frag) (mg : Str → Option Value) (x : Str) (d : D) : Prop where
  at_ : ∃ v u, mg x = some u ∧ RelV v u ∧ ∀ F H, Rep K F H v d
theorem pek_cst {d : D} (c : Cst C.X.K C.X.mg x d) (h : Φ (.d d) ρ m) (hg : Gl C.X x := by rfl) (hd : (x == ("__debug__" : Str)) = false := by decide) : PEk C (.Name x pos) ρ m Φ := fun _ σ H Q F S k => by
  obtain ⟨v, u, e, r, q⟩ := c.at_
  exact ⟨_, pe_glob hg e r hd, k _ _ F H _ h S (.refl _ _ _ _) (q F H)⟩
theorem pek_fnG {a : Addr} (e : C.X.mg x = some (.ref a)) (h : Φ (.f x) ρ m) (hg : Gl C.X x := by rfl) (hd : (x == ("__debug__" : Str)) = false := by decide) : PEk C (.Name x pos) ρ m Φ := fun _ σ H Q F S k =>
  ⟨_, pe_glob (v := .ref a) hg e rfl hd, k _ _ F H _ h S (.refl _ _ _ _) ⟨a, rfl, e⟩⟩
end
end
end MX

set_option Elab.async false
set_option linter.all false
set_option maxRecDepth 100000
set_option maxHeartbeats 4000000
/-! MXOps: operators, comparisons, built-ins, subscripts. -/
namespace MX
open PySem PySem.Spec PyProof.Rows L2

/-! ### what they compute -/
def addD : D → D → Option D
  | .int a, .int b => some (.int (a + b))
  | .str a, .str b => if a.length + b.length ≤ sizeLine then some (.str (a ++ b)) else none
  | .tuple a, .tuple b => if a.length + b.length ≤ sizeLine then some (.tuple (a ++ b)) else none
  | .list a, .list b => if a.length + b.length ≤ sizeLine then some (.list (a ++ b)) else none
  | _, _ => none
def subD : D → D → Option D
  | .int a, .int b => some (.int (a - b))
  | _, _ => none
def mulD : D → D → Option D
  | .int a, .int b => if (-(2 ^ 64) < a ∧ a < 2 ^ 64) ∨ (-(2 ^ 64) < b ∧ b < 2 ^ 64) then some (.int (a * b)) else none
  | _, _ => none
def fdivD : D → D → Option D
  | .int a, .int b => if 0 < b ∧ b < 1073741824 then some (.int (a / b)) else none
  | _, _ => none
def modD : D → D → Option D
  | .int a, .int b => if 0 < b then some (.int (a % b)) else none
  | _, _ => none
def powD : D → D → Option D
  | .int a, .int b => if 0 ≤ b ∧ b ≤ 1000000 ∧ a.natAbs < 2 ^ 64 then some (.int (a ^ b.toNat)) else none
  | _, _ => none

def BinOk (X : Cx) (fv : Value → Value → Sem Value) (f : D → D → Option D) : Prop :=
  ∀ dx dy z, f dx dy = some z → ∀ (F : Addr → Prop) (H : Hp) (x y : V) (Q : VK), (∀ a, F a → ∃ xs, H a = some (.lst xs)) → NowT X.K F H x dx → NowT X.K F H y dy →
    (∀ v F' H', Ext F H F' H' → Rep X.K F' H' v z → Q v H') → rwB X fv x y H Q
section
variable {X : Cx}
theorem ofIf {c : Prop} [Decidable c] {α : Type} {a b : α} (h : (if c then some a else none) = some b) : c ∧ a = b := by
  by_cases hc : c
  · rw [if_pos hc] at h; cases h; exact ⟨hc, rfl⟩
  · rw [if_neg hc] at h; cases h
theorem bin_add : BinOk X (binaryOp .Add) addD := by
  intro dx dy z e F H x y Q fz hx hy k
  cases dx <;> cases dy <;> try (cases e)
  · cases hx; cases hy
    exact ⟨_, op_add, _, _, rfl, rfl, k _ F H (.refl fz) (.int _)⟩
  · cases hx; cases hy
    obtain ⟨hz, rfl⟩ := ofIf e
    exact ⟨_, op_add_str, _, _, rfl, rfl, hz, k _ F H (.refl fz) (.str _)⟩
  · obtain ⟨hz, rfl⟩ := ofIf e
    obtain ⟨a, xs, rfl, ha, ra⟩ := hx
    obtain ⟨b, ys, rfl, hb, rb⟩ := hy
    refine ⟨_, op_cat, a, b, xs, ys, rfl, rfl, ha, hb, by rw [ra.length, rb.length]; exact hz, fun p hp => ?_⟩
    have x1 : Ext F H (fun a => F a ∨ a = p) (upd H p (.lst (xs ++ ys))) := .newF fz hp
    exact k _ _ _ x1 (.lst (.inr rfl) upd_same ((ra.append rb).keep own_none x1.fr))
  · obtain ⟨hz, rfl⟩ := ofIf e
    obtain ⟨a, xs, rfl, ha, ra⟩ := hx
    obtain ⟨b, ys, rfl, hb, rb⟩ := hy
    refine ⟨_, op_catA, a, b, xs, ys, rfl, rfl, ha, hb, by rw [ra.length, rb.length]; exact hz, fun e => ?_, fun _ e => ?_, fun _ _ p hp => ?_⟩
    · subst e
      have := ra.length
      obtain rfl : _ = [] := List.eq_nil_of_length_eq_zero this.symm
      exact k _ F H (.refl fz) (.tup hb rb)
    · subst e
      have := rb.length
      obtain rfl : _ = [] := List.eq_nil_of_length_eq_zero this.symm
      rw [List.append_nil] at k
      exact k _ F H (.refl fz) (.tup ha ra)
    · have x1 : Ext F H F (upd H p (.tup (xs ++ ys))) := .new fz hp
      exact k _ _ _ x1 (.tup (SqT.of upd_same) ((ra.append rb).keep own_none x1.fr))
theorem bin_sub : BinOk X (binaryOp .Sub) subD := by
  intro dx dy z e F H x y Q fz hx hy k
  cases dx <;> cases dy <;> try (cases e)
  cases hx; cases hy
  exact ⟨_, op_sub, _, _, rfl, rfl, k _ F H (.refl fz) (.int _)⟩
theorem bin_mul : BinOk X (binaryOp .Mult) mulD := by
  intro dx dy z e F H x y Q fz hx hy k
  cases dx <;> cases dy <;> try (cases e)
  obtain ⟨hz, rfl⟩ := ofIf e
  cases hx; cases hy
  exact ⟨_, op_mul, _, _, rfl, rfl, hz, k _ F H (.refl fz) (.int _)⟩
theorem bin_fdiv : BinOk X (binaryOp .FloorDiv) fdivD := by
  intro dx dy z e F H x y Q fz hx hy k
  cases dx <;> cases dy <;> try (cases e)
  obtain ⟨hz, rfl⟩ := ofIf e
  cases hx; cases hy
  exact ⟨_, op_fdiv, _, _, rfl, rfl, hz, k _ F H (.refl fz) (.int _)⟩
theorem bin_mod : BinOk X (binaryOp .Mod) modD := by
  intro dx dy z e F H x y Q fz hx hy k
  cases dx <;> cases dy <;> try (cases e)
  obtain ⟨hz, rfl⟩ := ofIf e
  cases hx; cases hy
  exact ⟨_, op_mod, _, _, rfl, rfl, hz, k _ F H (.refl fz) (.int _)⟩
theorem bin_pow : BinOk X (binaryOp .Pow) powD := by
  intro dx dy z e F H x y Q fz hx hy k
  cases dx <;> cases dy <;> try (cases e)
  obtain ⟨hz, rfl⟩ := ofIf e
  cases hx; cases hy
  exact ⟨_, op_pow, _, _, rfl, rfl, hz, k _ F H (.refl fz) (.int _)⟩
end

section
variable {C : Cm} {β : Type} {ρ : List Sl} {m : R β} {pos : Pos} {a b c : Expr}
/-- what follows an operation on the values x, y: k goes on with z -/
def After2 (ρ : List Sl) (f : D → D → Option D) (x y : Av) (m : R β) (Φ : Av → List Sl → R β → Prop) : Prop :=
  ∃ dx dy k, viewT ρ x = some dx ∧ viewT ρ y = some dy ∧ m = R.opt (f dx dy) k ∧ ∀ z, Φ (.d z) ρ (k z)
theorem pek_bin {op : Operator} {f : D → D → Option D} {Φ : Av → List Sl → R β → Prop} (ho : BinOk C.X (binaryOp op) f)
    (h : PEk C a ρ m fun x ρ1 m1 => PEk C b ρ1 m1 fun y ρ2 m2 => After2 ρ2 f x y m2 Φ) : PEk C (.BinOp a op b pos) ρ m Φ := fun g σ H Q F S k => by
  refine ⟨_, pe_op opr_any pe_tw pe_tw, h g σ H _ F S fun x ρ1 F1 H1 v hx S1 f1 r1 => hx g σ H1 _ F1 S1 fun y ρ2 F2 H2 u hy S2 f2 r2 => ?_⟩
  obtain ⟨dx, dy, kk, e1, e2, e3, hk⟩ := hy
  have r1' := r1.keep S1 f2
  rw [e3] at g
  cases q : f dx dy with
  | some z =>
    refine ho dx dy z q F2 H2 v u _ S2.b.fz (r1'.nowT S2 e1) (r2.nowT S2 e2) fun w F3 H3 x3 r3 => ?_
    rw [q] at e3
    exact k (.d z) ρ2 F3 H3 w (by rw [e3]; exact hk z) (S2.ext x3) ((f1.trans f2).trans x3.fm) r3
  | none => rw [q] at g; exact g.elim
end
end MX

set_option Elab.async false
set_option linter.all false
set_option maxRecDepth 100000
set_option maxHeartbeats 4000000
/-! MXOps2: comparisons, tests, built-ins, subscripts, displays. -/
namespace MX
open PySem PySem.Spec PyProof.Rows L2

def ltD : D → D → Option Bool
  | .int a, .int b => some (decide (a < b))
  | _, _ => none
def leD : D → D → Option Bool
  | .int a, .int b => some (decide (a ≤ b))
  | _, _ => none
def gtD : D → D → Option Bool
  | .int a, .int b => some (decide (b < a))
  | _, _ => none
def geD : D → D → Option Bool
  | .int a, .int b => some (decide (b ≤ a))
  | _, _ => none
/-- == of data that is at most 300 deep -/
def eqG (a b : D) : Option Bool := if a.canLay0 = true ∧ b.canLay0 = true ∧ min a.depth b.depth ≤ 300 then some (PyData.eqv a b) else none
def eqD : D → D → Option Bool
  | .int i, .int j => some (i == j)
  | .str x, .str y => some (x == y)
  | a, b => eqG a b
def neD (a b : D) : Option Bool := (eqD a b).map not
def flatD : D → Bool
  | .none | .bool _ | .int _ | .str _ => true
  | _ => false
def inD (x : D) : D → Option Bool
  | .list ds => if flatD x = true ∧ ds.all flatD = true then some (ds.any fun y => PyData.eqv y x) else none
  | .tuple ds => if flatD x = true ∧ ds.all flatD = true then some (ds.any fun y => PyData.eqv y x) else none
  | _ => none
def notInD (x y : D) : Option Bool := (inD x y).map not
def isNoneD : D → Bool
  | .none => true
  | _ => false
def truD : D → Option Bool
  | .none => some false
  | .bool b => some b
  | .int i => some (i != 0)
  | .str y => if y.length ≤ sizeLine then some ((y.length : Int) != 0) else none
  | .list ds => some (!ds.isEmpty)
  | .tuple ds => some (!ds.isEmpty)
  | .dict _ => none

def CmpOk (X : Cx) (fv : Value → Value → Sem Value) (f : D → D → Option Bool) : Prop :=
  ∀ dx dy b, f dx dy = some b → ∀ (F : Addr → Prop) (H : Hp) (x y : V) (Q : VK), Now X.K F H x dx → Now X.K F H y dy → Q (.bl b) H → rwB X fv x y H Q
section
variable {X : Cx}
theorem cmp_lt : CmpOk X (compareOp .Lt) ltD := by
  intro dx dy b e F H x y Q hx hy k
  cases dx <;> cases dy <;> cases e
  cases hx; cases hy
  exact ⟨_, op_lt, _, _, rfl, rfl, k⟩
theorem cmp_le : CmpOk X (compareOp .LtE) leD := by
  intro dx dy b e F H x y Q hx hy k
  cases dx <;> cases dy <;> cases e
  cases hx; cases hy
  exact ⟨_, op_le, _, _, rfl, rfl, k⟩
theorem cmp_gt : CmpOk X (compareOp .Gt) gtD := by
  intro dx dy b e F H x y Q hx hy k
  cases dx <;> cases dy <;> cases e
  cases hx; cases hy
  exact ⟨_, op_gt, _, _, rfl, rfl, k⟩
theorem cmp_ge : CmpOk X (compareOp .GtE) geD := by
  intro dx dy b e F H x y Q hx hy k
  cases dx <;> cases dy <;> cases e
  cases hx; cases hy
  exact ⟨_, op_ge, _, _, rfl, rfl, k⟩
/-- == of two values that are data -/
def rDeep (neg : Bool) (K : PySem.W.Frag) : R2 := fun x y H Q => ∃ d e, Dp K H x d ∧ Dp K H y e ∧ d.canLay0 = true ∧ e.canLay0 = true ∧ min d.depth e.depth ≤ 300 ∧ Q (.bl (if neg then !PyData.eqv d e else PyData.eqv d e)) H
theorem deep_eq (hu : X.A.units + 300 < cLine) : OpR X (compareOp .Eq) (rDeep false X.K) := by
  rintro pins s σ H x y v u Q I rx ry ⟨d, e, hd, he, c1, c2, hm, q⟩
  obtain ⟨l1, r1⟩ := hd.reads I d x v rx
  obtain ⟨l2, r2⟩ := he.reads I e y u ry
  exact SeqAt.compareEq_reads r1 r2 c1 c2 (by omega) ⟨.bl _, H, I, rfl, q⟩
theorem deep_ne (hu : X.A.units + 300 < cLine) : OpR X (compareOp .NotEq) (rDeep true X.K) := by
  rintro pins s σ H x y v u Q I rx ry ⟨d, e, hd, he, c1, c2, hm, q⟩
  obtain ⟨l1, r1⟩ := hd.reads I d x v rx
  obtain ⟨l2, r2⟩ := he.reads I e y u ry
  exact SeqAt.compareNe_reads r1 r2 c1 c2 (by omega) ⟨.bl _, H, I, rfl, q⟩
theorem ofIfB {c : Prop} [Decidable c] {α : Type} {a b : α} (h : (if c then some a else none) = some b) : c ∧ a = b := by
  by_cases hc : c
  · rw [if_pos hc] at h; cases h; exact ⟨hc, rfl⟩
  · rw [if_neg hc] at h; cases h
theorem eqD_cases {dx dy : D} {b : Bool} (e : eqD dx dy = some b) : (∃ i j, dx = .int i ∧ dy = .int j ∧ b = (i == j)) ∨ (∃ x y, dx = .str x ∧ dy = .str y ∧ b = (x == y)) ∨ eqG dx dy = some b := by
  unfold eqD at e
  split at e
  · cases e; exact .inl ⟨_, _, rfl, rfl, rfl⟩
  · cases e; exact .inr (.inl ⟨_, _, rfl, rfl, rfl⟩)
  · exact .inr (.inr e)
theorem cmp_eq (hu : X.A.units + 300 < cLine) : CmpOk X (compareOp .Eq) eqD := by
  intro dx dy b e F H x y Q hx hy k
  rcases eqD_cases e with ⟨i, j, rfl, rfl, rfl⟩ | ⟨i, j, rfl, rfl, rfl⟩ | e
  · cases hx; cases hy
    exact ⟨_, op_eq, rfl, by rw [dec_int]; exact k⟩
  · cases hx; cases hy
    exact ⟨_, op_eq, rfl, by rw [dec_str]; exact k⟩
  · obtain ⟨⟨c1, c2, c3⟩, rfl⟩ := ofIfB e
    exact ⟨_, deep_eq hu, dx, dy, hx.dp, hy.dp, c1, c2, c3, k⟩
theorem cmp_ne (hu : X.A.units + 300 < cLine) : CmpOk X (compareOp .NotEq) neD := by
  intro dx dy b e F H x y Q hx hy k
  unfold neD at e
  cases q : eqD dx dy with
  | none => rw [q] at e; cases e
  | some c =>
    rw [q] at e
    cases e
    rcases eqD_cases q with ⟨i, j, rfl, rfl, rfl⟩ | ⟨i, j, rfl, rfl, rfl⟩ | q
    · cases hx; cases hy
      exact ⟨_, op_ne, rfl, by rw [dec_int]; exact k⟩
    · cases hx; cases hy
      exact ⟨_, op_ne, rfl, by rw [dec_str]; exact k⟩
    · obtain ⟨⟨c1, c2, c3⟩, rfl⟩ := ofIfB q
      exact ⟨_, deep_ne hu, dx, dy, hx.dp, hy.dp, c1, c2, c3, k⟩
theorem flat_of {K : PySem.W.Frag} {F : Addr → Prop} {H : Hp} {v : V} {d : D} (r : Rep K F H v d) (f : flatD d = true) : flatV v = true := by
  cases r <;> first | rfl | cases f
theorem flat_now {K : PySem.W.Frag} {F : Addr → Prop} {H : Hp} {v : V} {d : D} (r : Now K F H v d) (f : flatD d = true) : Rep K F H v d := by
  cases d with
  | none => cases r; exact .non
  | bool b => cases r; exact .bl _
  | int i => cases r; exact .int _
  | str z => cases r; exact .str _
  | _ => cases f
theorem eqV_of {K : PySem.W.Frag} {F : Addr → Prop} {H : Hp} {v u : V} {d e : D} (r : Rep K F H v d) (q : Rep K F H u e) (f : flatD d = true) (g : flatD e = true) : eqV v u = PyData.eqv d e := by
  cases r <;> cases q <;> first | (cases f; done) | (cases g; done) | simp [eqV, PyData.eqv]
theorem any_of {K : PySem.W.Frag} {F : Addr → Prop} {H : Hp} {u : V} {e : D} (q : Rep K F H u e) (g : flatD e = true) : ∀ {vs : List V} {ds : List D}, RepL K F H vs ds → ds.all flatD = true → vs.all flatV = true ∧ inV u vs = ds.any fun y => PyData.eqv y e
  | [], [], _, _ => ⟨rfl, rfl⟩
  | v :: vs, d :: ds, .cons r t, f => by
    rw [List.all_cons, Bool.and_eq_true] at f
    obtain ⟨h1, h2⟩ := any_of q g t f.2
    refine ⟨by rw [List.all_cons, flat_of r f.1, h1]; rfl, ?_⟩
    unfold inV at h2 ⊢
    rw [List.any_cons, List.any_cons, h2, eqV_of r q f.1 g]
theorem cmp_in : CmpOk X (compareOp .In) inD := by
  intro dx dy b e F H x y Q hx hy k
  cases dy <;> try (cases e)
  all_goals
    obtain ⟨⟨c1, c2⟩, rfl⟩ := ofIfB e
    obtain ⟨a, xs, rfl, ha, ra⟩ := hy
    have rx := flat_now hx c1
    obtain ⟨h1, h2⟩ := any_of rx c1 ra c2
  · exact ⟨_, op_in_seq, a, xs, rfl, .inl ha, flat_of rx c1, h1, by rw [h2]; exact k⟩
  · exact ⟨_, op_in_seq, a, xs, rfl, .inr ha, flat_of rx c1, h1, by rw [h2]; exact k⟩
theorem cmp_notIn : CmpOk X (compareOp .NotIn) notInD := by
  intro dx dy b e F H x y Q hx hy k
  unfold notInD at e
  cases dy <;> try (cases e)
  all_goals
    unfold inD at e
    dsimp only at e
    split at e <;> cases e
    rename_i c
    obtain ⟨a, xs, rfl, ha, ra⟩ := hy
    have rx := flat_now hx c.1
    obtain ⟨h1, h2⟩ := any_of rx c.1 ra c.2
  · exact ⟨_, op_notIn_seq, a, xs, rfl, .inl ha, flat_of rx c.1, h1, by rw [h2]; exact k⟩
  · exact ⟨_, op_notIn_seq, a, xs, rfl, .inr ha, flat_of rx c.1, h1, by rw [h2]; exact k⟩
end

section
variable {C : Cm} {β : Type} {ρ : List Sl} {m : R β} {pos : Pos} {a b c : Expr}
def AfterC (ρ : List Sl) (f : D → D → Option Bool) (x y : Av) (m : R β) (Φ : Bool → R β → Prop) : Prop :=
  ∃ dx dy k, view ρ x = some dx ∧ view ρ y = some dy ∧ m = R.opt (f dx dy) k ∧ Φ true (k true) ∧ Φ false (k false)
theorem AfterC.use {C : Cm} {σ : St} {F : Addr → Prop} {H Hs Hs' : Hp} {f : D → D → Option Bool} {x y : Av} {v u : V} {Φ : Bool → R β → Prop} {fv : Value → Value → Sem Value} {Q : VK} (ho : CmpOk C.X fv f) (g : Good C m) (S : C.S F H σ ρ)
    (rx : RepA C.X.K C.X.mg C.G Hs F H σ ρ v x) (ry : RepA C.X.K C.X.mg C.G Hs' F H σ ρ u y) (h : AfterC ρ f x y m Φ) (k : ∀ c, Φ c m → Q (.bl c) H) : rwB C.X fv v u H Q := by
  obtain ⟨dx, dy, kk, e1, e2, e3, h1, h2⟩ := h
  rw [e3] at g
  cases q : f dx dy with
  | none => rw [q] at g; exact g.elim
  | some z =>
    refine ho dx dy z q F H v u _ (rx.now S e1) (ry.now S e2) (k z ?_)
    rw [e3, q]
    cases z with
    | true => exact h1
    | false => exact h2
theorem pek_cmp {op : CmpOp} {f : D → D → Option Bool} {Φ : Av → List Sl → R β → Prop} (ho : CmpOk C.X (compareOp op) f)
    (h : PEk C a ρ m fun x ρ1 m1 => PEk C b ρ1 m1 fun y ρ2 m2 => AfterC ρ2 f x y m2 fun c m3 => Φ (.d (.bool c)) ρ2 m3) (hm : behindInMarks op b = false := by first | exact nomark _ | rfl) : PEk C (.Compare a [op] [b] pos) ρ m Φ := fun g σ H Q F S k =>
  ⟨_, pe_cmpR opr_any pe_tw pe_tw hm, h g σ H _ F S fun x ρ1 F1 H1 v hx S1 f1 r1 => hx g σ H1 _ F1 S1 fun y ρ2 F2 H2 u hy S2 f2 r2 =>
    hy.use ho g S2 (r1.keep S1 f2) r2 fun c hc => k _ ρ2 F2 H2 _ hc S2 (f1.trans f2) (.bl c)⟩
theorem ptk_cmp {op : CmpOp} {f : D → D → Option Bool} {Φ : Bool → List Sl → R β → Prop} (ho : CmpOk C.X (compareOp op) f)
    (h : PEk C a ρ m fun x ρ1 m1 => PEk C b ρ1 m1 fun y ρ2 m2 => AfterC ρ2 f x y m2 fun c m3 => Φ c ρ2 m3) (hm : behindInMarks op b = false := by first | exact nomark _ | rfl) : PTk C (.Compare a [op] [b] pos) ρ m Φ := fun g σ H Q F S k =>
  ⟨_, pt_cmpR opr_any pe_tw pe_tw hm, h g σ H _ F S fun x ρ1 F1 H1 v hx S1 f1 r1 => hx g σ H1 _ F1 S1 fun y ρ2 F2 H2 u hy S2 f2 r2 =>
    hy.use ho g S2 (r1.keep S1 f2) r2 fun c hc => ⟨c, rfl, k _ ρ2 F2 H2 hc S2 (f1.trans f2)⟩⟩
/-- a op b op' c: the second comparison where the first holds -/
def AfterCh (C : Cm) (c : Expr) (f f' : D → D → Option Bool) (x y : Av) (ρ2 : List Sl) (m2 : R β) (Φ : Bool → List Sl → R β → Prop) : Prop :=
  AfterC ρ2 f x y m2 fun k m3 => match k with
    | true => PEk C c ρ2 m3 fun z ρ3 m4 => AfterC ρ3 f' y z m4 fun k' m5 => Φ k' ρ3 m5
    | false => Φ false ρ2 m3
theorem chain_use {f f' : D → D → Option Bool} {op op' : CmpOp} {Φ : Bool → List Sl → R β → Prop} (ho : CmpOk C.X (compareOp op) f) (ho' : CmpOk C.X (compareOp op') f')
    (h : PEk C a ρ m fun x ρ1 m1 => PEk C b ρ1 m1 fun y ρ2 m2 => AfterCh C c f f' x y ρ2 m2 Φ) (g : Good C m) (σ : St) (H : Hp) (Q : VK) (F : Addr → Prop) (S : C.S F H σ ρ)
    (k : ∀ k' ρ' F' H', Φ k' ρ' m → C.S F' H' σ ρ' → Fm σ ρ F H ρ' F' H' → Q (.bl k') H') : tChain (rwB C.X (compareOp op)) (rwB C.X (compareOp op')) (tw C.X a) (tw C.X b) (tw C.X c) σ H Q := by
  refine h g σ H _ F S fun x ρ1 F1 H1 v hx S1 f1 r1 => hx g σ H1 _ F1 S1 fun y ρ2 F2 H2 u hy S2 f2 r2 => hy.use ho g S2 (r1.keep S1 f2) r2 fun c hc => ⟨c, rfl, ?_⟩
  cases c with
  | false => exact iteF (k false ρ2 F2 H2 hc S2 (f1.trans f2))
  | true => exact iteT (hc g σ H2 _ F2 S2 fun z ρ3 F3 H3 w hz S3 f3 r3 => hz.use ho' g S3 (r2.keep S2 f3) r3 fun c' hc' => k c' ρ3 F3 H3 hc' S3 ((f1.trans f2).trans f3))
theorem ptk_chain {op op' : CmpOp} {f f' : D → D → Option Bool} {Φ : Bool → List Sl → R β → Prop} (ho : CmpOk C.X (compareOp op) f) (ho' : CmpOk C.X (compareOp op') f')
    (h : PEk C a ρ m fun x ρ1 m1 => PEk C b ρ1 m1 fun y ρ2 m2 => AfterCh C c f f' x y ρ2 m2 Φ) (hm : lastMarks [op, op'] [b, c] = false := by with_unfolding_all rfl) : PTk C (.Compare a [op, op'] [b, c] pos) ρ m Φ := fun g σ H Q F S k =>
  ⟨_, pt_chain opr_any opr_any pe_tw pe_tw pe_tw hm, chain_use ho ho' h g σ H _ F S fun k' ρ' F' H' hk S' f' => ⟨k', rfl, k k' ρ' F' H' hk S' f'⟩⟩
theorem pek_chain {op op' : CmpOp} {f f' : D → D → Option Bool} {Φ : Av → List Sl → R β → Prop} (ho : CmpOk C.X (compareOp op) f) (ho' : CmpOk C.X (compareOp op') f')
    (h : PEk C a ρ m fun x ρ1 m1 => PEk C b ρ1 m1 fun y ρ2 m2 => AfterCh C c f f' x y ρ2 m2 fun k ρ3 m3 => Φ (.d (.bool k)) ρ3 m3) (hm : lastMarks [op, op'] [b, c] = false := by with_unfolding_all rfl) : PEk C (.Compare a [op, op'] [b, c] pos) ρ m Φ := fun g σ H Q F S k =>
  ⟨_, pe_chain opr_any opr_any pe_tw pe_tw pe_tw hm, chain_use ho ho' h g σ H _ F S fun k' ρ' F' H' hk S' f' => k _ ρ' F' H' _ hk S' f' (.bl k')⟩
theorem isN_of {K : PySem.W.Frag} {F : Addr → Prop} {H : Hp} {v : V} {d : D} (r : Now K F H v d) : decide (v = .non) = isNoneD d := by
  cases d with
  | none => cases r; rfl
  | bool b => cases r; rfl
  | int i => cases r; rfl
  | str z => cases r; rfl
  | list ds => obtain ⟨a, xs, rfl, _⟩ := r; rfl
  | tuple ds => obtain ⟨a, xs, rfl, _⟩ := r; rfl
  | dict kv => exact r.elim
def AfterN (ρ : List Sl) (f : D → Bool) (x : Av) (m : R β) (Φ : Bool → R β → Prop) : Prop := ∃ (d : D) (k : Bool → R β), view ρ x = some d ∧ m = k (f d) ∧ Φ true (k true) ∧ Φ false (k false)
theorem AfterN.use {f : D → Bool} {x : Av} {Φ : Bool → R β → Prop} (h : AfterN ρ f x m Φ) : ∃ d, view ρ x = some d ∧ Φ (f d) m := by
  obtain ⟨d, k, e, e2, h1, h2⟩ := h
  refine ⟨d, e, ?_⟩
  rw [e2]
  cases f d with
  | true => exact h1
  | false => exact h2
theorem ptk_isN {j : Nat} {p : Pos} {Φ : Bool → List Sl → R β → Prop} (h : PEk C a ρ m fun x ρ1 m1 => AfterN ρ1 isNoneD x m1 fun c m2 => Φ c ρ1 m2) : PTk C (.Compare a [.Is] [.Constant .none j p] pos) ρ m Φ := fun g σ H Q F S k =>
  ⟨_, pt_cmpR op_isN pe_tw pe_non (nomark _), h g σ H _ F S fun x ρ1 F1 H1 v hx S1 f1 r1 => by
    obtain ⟨d, e, hc⟩ := hx.use
    exact ⟨rfl, _, rfl, by rw [isN_of (r1.now S1 e)]; exact k _ ρ1 F1 H1 hc S1 f1⟩⟩
theorem ptk_notN {j : Nat} {p : Pos} {Φ : Bool → List Sl → R β → Prop} (h : PEk C a ρ m fun x ρ1 m1 => AfterN ρ1 isNoneD x m1 fun c m2 => Φ (!c) ρ1 m2) : PTk C (.Compare a [.IsNot] [.Constant .none j p] pos) ρ m Φ := fun g σ H Q F S k =>
  ⟨_, pt_cmpR op_notN pe_tw pe_non (nomark _), h g σ H _ F S fun x ρ1 F1 H1 v hx S1 f1 r1 => by
    obtain ⟨d, e, hc⟩ := hx.use
    exact ⟨rfl, _, rfl, by rw [isN_of (r1.now S1 e)]; exact k _ ρ1 F1 H1 hc S1 f1⟩⟩
/-- a value's truth -/
def AfterT (ρ : List Sl) (f : D → Option Bool) (x : Av) (m : R β) (Φ : Bool → R β → Prop) : Prop := ∃ d k, view ρ x = some d ∧ m = R.opt (f d) k ∧ Φ true (k true) ∧ Φ false (k false)
theorem AfterT.use {f : D → Option Bool} {x : Av} {Φ : Bool → R β → Prop} (g : Good C m) (h : AfterT ρ f x m Φ) : ∃ d c, view ρ x = some d ∧ f d = some c ∧ Φ c m := by
  obtain ⟨d, k, e, e2, h1, h2⟩ := h
  rw [e2] at g
  cases q : f d with
  | none => rw [q] at g; exact g.elim
  | some c =>
    refine ⟨d, c, e, q, ?_⟩
    rw [e2, q]
    cases c with
    | true => exact h1
    | false => exact h2
theorem isEmpty_rep {K : PySem.W.Frag} {F : Addr → Prop} {H : Hp} {xs : List V} {ds : List D} (r : RepL K F H xs ds) : (!xs.isEmpty) = !ds.isEmpty := by
  cases r <;> rfl
theorem tru_of {K : PySem.W.Frag} {F : Addr → Prop} {H : Hp} {v : V} {d : D} {c : Bool} (r : Now K F H v d) (e : truD d = some c) : TruV K v H c := by
  cases d with
  | none => cases r; cases e; rfl
  | bool b => cases r; cases e; rfl
  | int i => cases r; cases e; rfl
  | str z =>
    cases r
    obtain ⟨h1, h2⟩ := ofIfB e
    exact ⟨h1, h2.symm⟩
  | list ds => obtain ⟨a, xs, rfl, h, t⟩ := r; cases e; exact .inl ⟨xs, h, (isEmpty_rep t).symm⟩
  | tuple ds => obtain ⟨a, xs, rfl, h, t⟩ := r; cases e; exact .inr (.inl ⟨xs, h, (isEmpty_rep t).symm⟩)
  | dict kv => exact r.elim
theorem ptk_tru {Φ : Bool → List Sl → R β → Prop} (h : PEk C a ρ m fun x ρ1 m1 => AfterT ρ1 truD x m1 fun c m2 => Φ c ρ1 m2)
    (he : ∀ whole, isTrue a C.X.env whole = (do let v ← whole; standAt a.pos; holding [v] (truthy v)) := by intro _; rfl) : PTk C a ρ m Φ := fun g σ H Q F S k =>
  ⟨_, pt_truth pe_tw he, h g σ H _ F S fun x ρ1 F1 H1 v hx S1 f1 r1 => by
    obtain ⟨d, c, e, e2, hc⟩ := hx.use g
    exact ⟨c, tru_of (r1.now S1 e) e2, k c ρ1 F1 H1 hc S1 f1⟩⟩
theorem ptk_not {Φ : Bool → List Sl → R β → Prop} (h : PTk C a ρ m fun c ρ1 m1 => Φ (!c) ρ1 m1) : PTk C (.UnaryOp .Not a pos) ρ m Φ := fun g σ H Q F S k =>
  ⟨_, pt_not pt_tw, h g σ H _ F S fun c ρ1 F1 H1 hc S1 f1 => k _ ρ1 F1 H1 hc S1 f1⟩
/-- and, or, as tests -/
def PWk (C : Cm) (e : Expr) (ρ : List Sl) (m : R β) (Φ : Bool → List Sl → R β → Prop) : Prop :=
  Good C m → ∀ (σ : St) (H : Hp) (Q : Bool → Hp → Prop) (F : Addr → Prop), C.S F H σ ρ →
    (∀ c ρ' F' H', Φ c ρ' m → C.S F' H' σ ρ' → Fm σ ρ F H ρ' F' H' → Q c H') → ∃ t, PW C.X e t ∧ t σ H Q
theorem pw_any {X : Cx} {e : Expr} : PW X e (fun σ H Q => ∃ t, PW X e t ∧ t σ H Q) := ⟨fun wh pins s σ H Q I ⟨_, ht, hq⟩ => ht.run wh pins s σ H Q I hq⟩
theorem ptk_pw {Φ : Bool → List Sl → R β → Prop} (h : PWk C a ρ m Φ) : PTk C a ρ m Φ := fun g σ H Q F S k => by
  obtain ⟨t, ht, hq⟩ := h g σ H Q F S k
  exact ⟨t, ht.pt, hq⟩
theorem pwk_and1 {Φ : Bool → List Sl → R β → Prop} (h : PTk C a ρ m Φ) : PWk C (.BoolOp .And [a] pos) ρ m Φ := fun g σ H Q F S k => ⟨_, pw_and1 pt_tw, h g σ H Q F S k⟩
theorem pwk_or1 {Φ : Bool → List Sl → R β → Prop} (h : PTk C a ρ m Φ) : PWk C (.BoolOp .Or [a] pos) ρ m Φ := fun g σ H Q F S k => ⟨_, pw_or1 pt_tw, h g σ H Q F S k⟩
theorem pwk_and {r : List Expr} {Φ : Bool → List Sl → R β → Prop} (h : PTk C a ρ m fun c ρ1 m1 => match c with
      | true => PWk C (.BoolOp .And (b :: r) pos) ρ1 m1 Φ
      | false => Φ false ρ1 m1) : PWk C (.BoolOp .And (a :: b :: r) pos) ρ m Φ := fun g σ H Q F S k =>
  ⟨_, pw_and pt_tw pw_any, h g σ H _ F S fun c ρ1 F1 H1 hc S1 f1 => by
    cases c with
    | true => exact iteT (hc g σ H1 Q F1 S1 fun c' ρ2 F2 H2 hc' S2 f2 => k c' ρ2 F2 H2 hc' S2 (f1.trans f2))
    | false => exact iteF (k false ρ1 F1 H1 hc S1 f1)⟩
theorem pwk_or {r : List Expr} {Φ : Bool → List Sl → R β → Prop} (h : PTk C a ρ m fun c ρ1 m1 => match c with
      | true => Φ true ρ1 m1
      | false => PWk C (.BoolOp .Or (b :: r) pos) ρ1 m1 Φ) : PWk C (.BoolOp .Or (a :: b :: r) pos) ρ m Φ := fun g σ H Q F S k =>
  ⟨_, pw_or pt_tw pw_any, h g σ H _ F S fun c ρ1 F1 H1 hc S1 f1 => by
    cases c with
    | true => exact iteT (k true ρ1 F1 H1 hc S1 f1)
    | false => exact iteF (hc g σ H1 Q F1 S1 fun c' ρ2 F2 H2 hc' S2 f2 => k c' ρ2 F2 H2 hc' S2 (f1.trans f2))⟩
/-- and, or, as values: the first ones are True or False -/
theorem pek_one {op : BoolOp} {Φ : Av → List Sl → R β → Prop} (h : PEk C a ρ m Φ) : PEk C (.BoolOp op [a] pos) ρ m Φ := fun g σ H Q F S k => ⟨_, pe_one pe_tw, h g σ H Q F S k⟩
theorem pek_and {r : List Expr} {Φ : Av → List Sl → R β → Prop} (h : PEk C a ρ m fun x ρ1 m1 => ∃ c, x = .d (.bool c) ∧ match c with
      | true => PEk C (.BoolOp .And (b :: r) pos) ρ1 m1 Φ
      | false => Φ (.d (.bool false)) ρ1 m1) : PEk C (.BoolOp .And (a :: b :: r) pos) ρ m Φ := fun g σ H Q F S k =>
  ⟨_, pe_and pe_tw pe_tw, h g σ H _ F S fun x ρ1 F1 H1 v hx S1 f1 r1 => by
    obtain ⟨c, rfl, hc⟩ := hx
    have r1 : Rep _ _ _ v (.bool c) := r1
    cases r1
    refine ⟨c, rfl, ?_⟩
    cases c with
    | true => exact iteT (hc g σ H1 Q F1 S1 fun y ρ2 F2 H2 u hy S2 f2 r2 => k y ρ2 F2 H2 u hy S2 (f1.trans f2) (r2.back f1.fr.tr))
    | false => exact iteF (k _ ρ1 F1 H1 _ hc S1 f1 (.bl false))⟩
theorem pek_or {r : List Expr} {Φ : Av → List Sl → R β → Prop} (h : PEk C a ρ m fun x ρ1 m1 => ∃ c, x = .d (.bool c) ∧ match c with
      | true => Φ (.d (.bool true)) ρ1 m1
      | false => PEk C (.BoolOp .Or (b :: r) pos) ρ1 m1 Φ) : PEk C (.BoolOp .Or (a :: b :: r) pos) ρ m Φ := fun g σ H Q F S k =>
  ⟨_, pe_or pe_tw pe_tw, h g σ H _ F S fun x ρ1 F1 H1 v hx S1 f1 r1 => by
    obtain ⟨c, rfl, hc⟩ := hx
    have r1 : Rep _ _ _ v (.bool c) := r1
    cases r1
    refine ⟨c, rfl, ?_⟩
    cases c with
    | true => exact iteT (k _ ρ1 F1 H1 _ hc S1 f1 (.bl true))
    | false => exact iteF (hc g σ H1 Q F1 S1 fun y ρ2 F2 H2 u hy S2 f2 r2 => k y ρ2 F2 H2 u hy S2 (f1.trans f2) (r2.back f1.fr.tr))⟩
end
end MX

set_option Elab.async false
set_option linter.all false
set_option maxRecDepth 100000
set_option maxHeartbeats 4000000
/-! MXCall: argument lists, displays, built-ins, subscripts, slices. -/
namespace MX
open PySem PySem.Spec PyProof.Rows L2

/-! ### argument lists -/
section
variable {K : PySem.W.Frag} {mg : Str → Option Value} {G : Gh} {F F' : Addr → Prop} {H H' Hs : Hp} {σ : St} {ρ ρ' : List Sl}
theorem RepAs.back {Hb : Hp} (tr : ∀ a, Hs a = none → Hb a = none) : ∀ {vs : List V} {xs : List Av}, RepAs K mg G Hs F H σ ρ vs xs → RepAs K mg G Hb F H σ ρ vs xs
  | [], [], _ => trivial
  | _ :: _, _ :: _, h => ⟨RepA.back tr h.1, RepAs.back tr h.2⟩
  | [], _ :: _, h => h.elim
  | _ :: _, [], h => h.elim
theorem RepAs.length : ∀ {vs : List V} {xs : List Av}, RepAs K mg G Hs F H σ ρ vs xs → vs.length = xs.length
  | [], [], _ => rfl
  | _ :: _, _ :: _, h => by rw [List.length_cons, List.length_cons, RepAs.length h.2]
  | [], _ :: _, h => h.elim
  | _ :: _, [], h => h.elim
def allD : List Av → Option (List D)
  | [] => some []
  | .d x :: r => match allD r with
    | some ds => some (x :: ds)
    | none => none
  | _ :: _ => none
theorem allD_rep : ∀ {vs : List V} {xs : List Av} {ds : List D}, RepAs K mg G Hs F H σ ρ vs xs → allD xs = some ds → RepL K F H vs ds
  | [], [], _, _, e => by cases e; exact .nil
  | v :: vs, .d x :: xs, ds, h, e => by
    unfold allD at e
    split at e
    · rename_i es q
      cases e
      exact .cons h.1 (allD_rep h.2 q)
    · cases e
  | v :: vs, .b _ :: xs, ds, h, e => by cases e
  | v :: vs, .z _ :: xs, ds, h, e => by cases e
  | v :: vs, .f _ :: xs, ds, h, e => by cases e
  | v :: vs, .o _ :: xs, ds, h, e => by cases e
  | [], _ :: _, _, h, _ => h.elim
  | _ :: _, [], _, h, _ => h.elim
def NowL (K : PySem.W.Frag) (F : Addr → Prop) (H : Hp) : List V → List D → Prop
  | [], [] => True
  | v :: vs, d :: ds => Now K F H v d ∧ NowL K F H vs ds
  | _, _ => False
def viewsL (ρ : List Sl) : List Av → Option (List D)
  | [] => some []
  | x :: r => match view ρ x, viewsL ρ r with
    | some d, some ds => some (d :: ds)
    | _, _ => none
theorem views_now (S : SO K mg G F H σ ρ) : ∀ {vs : List V} {xs : List Av} {ds : List D}, RepAs K mg G Hs F H σ ρ vs xs → viewsL ρ xs = some ds → NowL K F H vs ds
  | [], [], _, _, e => by cases e; trivial
  | v :: vs, x :: xs, ds, h, e => by
    unfold viewsL at e
    split at e
    · rename_i d es q1 q2
      cases e
      exact ⟨RepA.now S h.1 q1, views_now S h.2 q2⟩
    · cases e
  | [], _ :: _, _, h, _ => h.elim
  | _ :: _, [], _, h, _ => h.elim
end
section
variable {C : Cm} {β : Type} {ρ : List Sl} {m : R β} {pos : Pos} {a b c e : Expr} {es : List Expr}
theorem pak_nil {Φ : List Av → List Sl → R β → Prop} (h : Φ [] ρ m) : PAk C [] ρ m Φ := fun g σ H Q F S k => ⟨_, pa_nil, k [] ρ F H [] h S (.refl _ _ _ _) trivial⟩
theorem pak_cons {Φ : List Av → List Sl → R β → Prop} (h : PEk C e ρ m fun x ρ1 m1 => PAk C es ρ1 m1 fun xs ρ2 m2 => Φ (x :: xs) ρ2 m2) (hs : starEach (e :: es) C.X.env = (false, eval e C.X.env) :: starEach es C.X.env := by rfl) :
    PAk C (e :: es) ρ m Φ := fun g σ H Q F S k =>
  ⟨_, pa_cons pe_tw pa_tw hs, h g σ H _ F S fun x ρ1 F1 H1 v hx S1 f1 r1 => hx g σ H1 _ F1 S1 fun xs ρ2 F2 H2 vs hy S2 f2 r2 => k _ ρ2 F2 H2 _ hy S2 (f1.trans f2) ⟨r1.keep S1 f2, r2.back f1.fr.tr⟩⟩

/-! ### displays -/
theorem pek_tup {k' : Nat} {Φ : Av → List Sl → R β → Prop} (h : PAk C es ρ m fun xs ρ1 m1 => ∃ ds, allD xs = some ds ∧ ds.length ≤ sizeLine ∧ Φ (.d (.tuple ds)) ρ1 m1) : PEk C (.Tuple es k' pos) ρ m Φ := fun g σ H Q F S k =>
  ⟨_, pe_tup pa_tw, h g σ H _ F S fun xs ρ1 F1 H1 vs hx S1 f1 r1 => by
    obtain ⟨ds, e, hz, hΦ⟩ := hx
    have r := allD_rep r1 e
    refine ⟨by rw [r.length]; exact hz, fun p hp => ?_⟩
    have x1 : Ext F1 H1 F1 (upd H1 p (.tup vs)) := .new S1.b.fz hp
    exact k (.d (.tuple ds)) ρ1 F1 _ _ hΦ (S1.ext x1) (f1.trans x1.fm) (.tup (SqT.of upd_same) (r.keep own_none x1.fr))⟩
theorem fresh_ow {K : PySem.W.Frag} {mg : Str → Option Value} {G : Gh} {F : Addr → Prop} {H : Hp} {σ : St} {p : Addr} (S : SO K mg G F H σ ρ) (hp : H p = none) : ¬ Ow σ ρ p := fun z => S.own.tracked z hp
theorem fresh_H0 {G : Gh} {F : Addr → Prop} {H : Hp} {p : Addr} (b : SB G F H) (hp : H p = none) : G.H0 p = none := by
  cases e : G.H0 p with
  | none => rfl
  | some o =>
    by_cases hw : ∃ j, G.W j = some p
    · obtain ⟨j, hj⟩ := hw
      have := b.wl j p hj; rw [hp] at this; exact this.elim
    · rw [b.kp p o e fun j hj => hw ⟨j, hj⟩] at hp; cases hp
/-- a new list -/
theorem new_list {K : PySem.W.Frag} {mg : Str → Option Value} {G : Gh} {F : Addr → Prop} {H : Hp} {σ : St} {p : Addr} {xs : List V} {ds : List D} (S : SO K mg G F H σ ρ) (hp : H p = none) (r : RepL K F H xs ds) :
    Ext F H F (upd H p (.lst xs)) ∧ RepA K mg G H F (upd H p (.lst xs)) σ ρ (.ref p) (.o (.ls ds)) := by
  have x1 : Ext F H F (upd H p (.lst xs)) := .new S.b.fz hp
  refine ⟨x1, p, rfl, ⟨xs, upd_same, r.keep own_none x1.fr⟩, fun f => ?_, fresh_H0 S.b hp, fresh_ow S hp, hp⟩
  obtain ⟨ys, e⟩ := S.b.fz p f
  rw [hp] at e; cases e
theorem pek_lst {Φ : Av → List Sl → R β → Prop} (h : PAk C es ρ m fun xs ρ1 m1 => ∃ ds, allD xs = some ds ∧ ds.length ≤ sizeLine ∧ Φ (.o (.ls ds)) ρ1 m1) : PEk C (.List es pos) ρ m Φ := fun g σ H Q F S k =>
  ⟨_, pe_lst pa_tw, h g σ H _ F S fun xs ρ1 F1 H1 vs hx S1 f1 r1 => by
    obtain ⟨ds, e, hz, hΦ⟩ := hx
    have r := allD_rep r1 e
    refine ⟨by rw [r.length]; exact hz, fun p hp => ?_⟩
    obtain ⟨x1, q⟩ := new_list S1 hp r
    exact k _ ρ1 F1 _ _ hΦ (S1.ext x1) (f1.trans x1.fm) (q.back f1.fr.tr)⟩
/-- a fresh list is fixed -/
theorem pek_frz {Φ : Av → List Sl → R β → Prop} (h : PEk C e ρ m fun x ρ1 m1 => ∃ ds, x = .o (.ls ds) ∧ Φ (.d (.list ds)) ρ1 m1) : PEk C e ρ m Φ := fun g σ H Q F S k =>
  h g σ H Q F S fun x ρ1 F1 H1 v hx S1 f1 r1 => by
    obtain ⟨ds, rfl, hΦ⟩ := hx
    obtain ⟨p, rfl, ⟨xs, e1, r⟩, nf, g0, no, hs⟩ := r1
    have fr : Fr0 (fun b => b = p) F1 H1 (fun b => F1 b ∨ b = p) H1 := ⟨fun _ _ q _ => q, fun _ f => .inl f, fun b f => f.elim .inl fun q => .inr (.inr q), fun _ h => h⟩
    have ho : Own (fun b => b = p) F1 H1 := fun b q => by subst q; exact ⟨nf, by rw [e1]; trivial⟩
    have nw : ∀ j, C.G.W j ≠ some p := fun j q => S1.b.w0 j p q g0
    have r' := r.keep ho fr
    have S2 : C.S (fun b => F1 b ∨ b = p) H1 σ ρ1 := by
      refine ⟨⟨?_, ?_, S1.b.wl, S1.b.kp, fun b f => .inl (S1.b.f0 b f), ?_, S1.b.w0, S1.b.wi⟩, S1.len, ?_, S1.dj⟩
      · rintro b (f | rfl)
        · exact S1.b.fz b f
        · exact ⟨xs, e1⟩
      · rintro j b w (f | rfl)
        · exact S1.b.wf j b w f
        · exact nw j w
      · rintro b (f | rfl)
        · exact S1.b.fn b f
        · exact .inr g0
      · intro j s hj
        obtain ⟨w, hw, ok⟩ := S1.sl j s hj
        refine ⟨w, hw, ?_⟩
        cases s with
        | no => trivial
        | va d => exact ok.keep ho fr (by simp)
        | fz d => exact ok.keep ho fr (by simp)
        | fn d => exact ok
        | ow t o =>
          obtain ⟨b, eb, rb, nb, kb⟩ := ok
          have hbp : b ≠ p := fun z => by
            subst z; subst eb
            exact no ⟨j, t, o, hj, hw⟩
          exact ⟨b, eb, rb.keep ho fr hbp, fun f => f.elim nb hbp, kb⟩
    exact k _ ρ1 _ H1 _ hΦ S2 ⟨⟨f1.fr.kp, fun b f => .inl (f1.fr.f1 b f), fun b f => f.elim (f1.fr.f2 b) fun q => .inr (.inl (q ▸ hs)), f1.fr.tr⟩, f1.ow⟩ (.lst (.inr rfl) e1 r')
end
end MX

set_option Elab.async false
set_option linter.all false
set_option maxRecDepth 100000
set_option maxHeartbeats 4000000
/-! MXBlt: built-ins, subscripts, slices, isinstance. -/
namespace MX
open PySem PySem.Spec PyProof.Rows L2

def lenD : List D → Option D
  | [.str x] => if x.length ≤ sizeLine then some (.int x.length) else none
  | [.list ds] => some (.int ds.length)
  | [.tuple ds] => some (.int ds.length)
  | _ => none
def intD : List D → Option D
  | [.int i] => some (.int i)
  | [.bool b] => some (.int (if b then 1 else 0))
  | _ => none
def ordD : List D → Option D
  | [.str x] => if x.length = 1 then some (.int (x.cps.getD 0 0 : Nat)) else none
  | _ => none
def absD : List D → Option D
  | [.int i] => some (.int (if i < 0 then -i else i))
  | _ => none
def maxD : List D → Option D
  | [.int i, .int j] => some (.int (if j > i then j else i))
  | _ => none
def minD : List D → Option D
  | [.int i, .int j] => some (.int (if j < i then j else i))
  | _ => none
def tupleD : List D → Option D
  | [.list ds] => some (.tuple ds)
  | [.tuple ds] => some (.tuple ds)
  | _ => none
def strD : List D → Option D
  | [.int i] => if i.natAbs.log2 < 1920 then some (.str (toString i)) else none
  | _ => none
def isSeqD : D → Bool
  | .list _ | .tuple _ => true
  | _ => false
def reprD : List D → Option D
  | [d] => if isSeqD d = true ∧ d.showable = true ∧ d.hasDict = false ∧ d.depth ≤ 300 ∧ d.shown.length ≤ sizeLine then some (.str d.shown)
    else match d with
      | .int i => if i.natAbs.log2 < 1920 then some (.str (toString i)) else none
      | _ => none
  | _ => none

def CallOk (X : Cx) (fv : Value) (f : List D → Option D) : Prop :=
  ∀ ds z, f ds = some z → ∀ (F : Addr → Prop) (H : Hp) (vs : List V) (Q : VK), (∀ a, F a → ∃ xs, H a = some (.lst xs)) → NowL X.K F H vs ds →
    (∀ v F' H', Ext F H F' H' → Rep X.K F' H' v z → Q v H') → rwC X fv vs H Q
theorem NowL.one {K : PySem.W.Frag} {F : Addr → Prop} {H : Hp} {vs : List V} {d : D} (h : NowL K F H vs [d]) : ∃ v, vs = [v] ∧ Now K F H v d := by
  cases vs with
  | nil => exact h.elim
  | cons v r =>
    cases r with
    | nil => exact ⟨v, rfl, h.1⟩
    | cons w r => exact h.2.elim
theorem NowL.two {K : PySem.W.Frag} {F : Addr → Prop} {H : Hp} {vs : List V} {d e : D} (h : NowL K F H vs [d, e]) : ∃ v u, vs = [v, u] ∧ Now K F H v d ∧ Now K F H u e := by
  cases vs with
  | nil => exact h.elim
  | cons v r =>
    obtain ⟨u, rfl, hu⟩ := NowL.one h.2
    exact ⟨v, u, rfl, h.1, hu⟩
section
variable {X : Cx}
theorem blt_len : CallOk X (.builtin "len") lenD := by
  intro ds z e F H vs Q fz h k
  unfold lenD at e
  split at e
  · obtain ⟨v, rfl, hv⟩ := h.one
    obtain ⟨hz, rfl⟩ := ofIfB e
    cases hv
    exact ⟨_, call_len, _, _, rfl, ⟨hz, rfl⟩, k _ F H (.refl fz) (.int _)⟩
  · obtain ⟨v, rfl, a, xs, rfl, ha, ra⟩ := h.one
    cases e
    exact ⟨_, call_len, _, _, rfl, .inl ⟨xs, ha, rfl⟩, by rw [ra.length]; exact k _ F H (.refl fz) (.int _)⟩
  · obtain ⟨v, rfl, a, xs, rfl, ha, ra⟩ := h.one
    cases e
    exact ⟨_, call_len, _, _, rfl, .inr ⟨xs, ha, rfl⟩, by rw [ra.length]; exact k _ F H (.refl fz) (.int _)⟩
  · cases e
theorem blt_int : CallOk X (.type "int") intD := by
  intro ds z e F H vs Q fz h k
  unfold intD at e
  split at e
  · obtain ⟨v, rfl, hv⟩ := h.one
    cases e; cases hv
    exact ⟨_, call_int1, .inl ⟨_, rfl, k _ F H (.refl fz) (.int _)⟩⟩
  · obtain ⟨v, rfl, hv⟩ := h.one
    cases e; cases hv
    exact ⟨_, call_int1, .inr ⟨_, rfl, k _ F H (.refl fz) (.int _)⟩⟩
  · cases e
theorem blt_ord : CallOk X (.builtin "ord") ordD := by
  intro ds z e F H vs Q fz h k
  unfold ordD at e
  split at e
  · obtain ⟨v, rfl, hv⟩ := h.one
    obtain ⟨hz, rfl⟩ := ofIfB e
    cases hv
    exact ⟨_, call_ord, _, rfl, hz, k _ F H (.refl fz) (.int _)⟩
  · cases e
theorem blt_abs : CallOk X (.builtin "abs") absD := by
  intro ds z e F H vs Q fz h k
  unfold absD at e
  split at e
  · obtain ⟨v, rfl, hv⟩ := h.one
    cases e; cases hv
    exact ⟨_, call_abs, _, rfl, k _ F H (.refl fz) (.int _)⟩
  · cases e
theorem blt_max (hc : X.calm = true) : CallOk X (.builtin "max") maxD := by
  intro ds z e F H vs Q fz h k
  unfold maxD at e
  split at e
  · obtain ⟨v, u, rfl, hv, hu⟩ := h.two
    cases e; cases hv; cases hu
    exact ⟨_, call_max2 hc, _, _, rfl, k _ F H (.refl fz) (.int _)⟩
  · cases e
theorem blt_min (hc : X.calm = true) : CallOk X (.builtin "min") minD := by
  intro ds z e F H vs Q fz h k
  unfold minD at e
  split at e
  · obtain ⟨v, u, rfl, hv, hu⟩ := h.two
    cases e; cases hv; cases hu
    exact ⟨_, call_min2 hc, _, _, rfl, k _ F H (.refl fz) (.int _)⟩
  · cases e
theorem blt_tuple : CallOk X (.type "tuple") tupleD := by
  intro ds z e F H vs Q fz h k
  unfold tupleD at e
  split at e
  · obtain ⟨v, rfl, a, xs, rfl, ha, ra⟩ := h.one
    cases e
    refine ⟨_, call_tuple_of, a, xs, rfl, .inl ⟨ha, fun l hl => ?_⟩⟩
    have x1 : Ext F H F (upd H l (.tup xs)) := .new fz hl
    exact k _ _ _ x1 (.tup (SqT.of upd_same) (ra.keep own_none x1.fr))
  · obtain ⟨v, rfl, a, xs, rfl, ha, ra⟩ := h.one
    cases e
    exact ⟨_, call_tuple_of, a, xs, rfl, .inr ⟨ha, k _ F H (.refl fz) (.tup ha ra)⟩⟩
  · cases e
theorem blt_str : CallOk X (.type "str") strD := by
  intro ds z e F H vs Q fz h k
  unfold strD at e
  split at e
  · obtain ⟨v, rfl, hv⟩ := h.one
    obtain ⟨hz, rfl⟩ := ofIfB e
    cases hv
    exact ⟨_, call_str_int, _, rfl, hz, k _ F H (.refl fz) (.str _)⟩
  · cases e
/-- repr of a list or tuple of data -/
theorem call_repr_data (hg : X.A.guards = some []) (hu : X.A.units + 302 < cLine) :
    CallR X (.builtin "repr") (fun xs H Q => ∃ (a : Addr) (d : D), xs = [.ref a] ∧ Dp X.K H (.ref a) d ∧ d.showable = true ∧ d.hasDict = false ∧ d.depth ≤ 300 ∧ d.shown.length ≤ sizeLine ∧ Q (.str d.shown) H) := by
  rintro pins s σ H xs us Q I r ⟨a, d, rfl, hd, h1, h2, h3, h4, q⟩
  obtain ⟨u, rfl, ru⟩ := vals1 r
  obtain ⟨l, rd⟩ := hd.reads I d _ u ru
  cases ru
  exact repr_of_reads' rd h1 (PyData.noDict_hsm h2) hg (by omega) (fun _ _ e => e) (fun h' u tk hk => ⟨.str d.shown, H, I.kept hk, ⟨_, rfl⟩, q⟩) h4
theorem blt_repr (hg : X.A.guards = some []) (hu : X.A.units + 302 < cLine) : CallOk X (.builtin "repr") reprD := by
  intro ds z e F H vs Q fz h k
  unfold reprD at e
  split at e
  · rename_i d
    obtain ⟨v, rfl, hv⟩ := h.one
    split at e
    · rename_i c
      cases e
      have hr : ∃ a, v = .ref a := by
        cases d <;> first
          | (obtain ⟨a, xs, rfl, _⟩ := hv; exact ⟨a, rfl⟩)
          | exact absurd c.1 (by simp [isSeqD])
      obtain ⟨a, rfl⟩ := hr
      exact ⟨_, call_repr_data hg hu, a, d, rfl, hv.dp, c.2.1, c.2.2.1, c.2.2.2.1, c.2.2.2.2, k _ F H (.refl fz) (.str _)⟩
    · split at e
      · obtain ⟨hz, rfl⟩ := ofIfB e
        cases hv
        exact ⟨_, SkE.call_repr_int, _, rfl, hz, k _ F H (.refl fz) (.str _)⟩
      · cases e
  · cases e
end

section
variable {C : Cm} {β : Type} {ρ : List Sl} {m : R β} {pos p : Pos} {a b e : Expr} {es : List Expr} {x : Str} {id T : String}
def AfterL (ρ : List Sl) (f : List D → Option D) (xs : List Av) (m : R β) (Φ : Av → List Sl → R β → Prop) : Prop :=
  ∃ ds k, viewsL ρ xs = some ds ∧ m = R.opt (f ds) k ∧ ∀ z, Φ (.d z) ρ (k z)
theorem AfterL.use {σ : St} {F0 F : Addr → Prop} {H0 H Hs : Hp} {ρ0 : List Sl} {f : List D → Option D} {xs : List Av} {vs : List V} {Φ : Av → List Sl → R β → Prop} {fv : Value} {Q : VK} (ho : CallOk C.X fv f) (g : Good C m) (S : C.S F H σ ρ) (fm : Fm σ ρ0 F0 H0 ρ F H)
    (r : RepAs C.X.K C.X.mg C.G Hs F H σ ρ vs xs) (h : AfterL ρ f xs m Φ)
    (k : ∀ x ρ' F' H' v, Φ x ρ' m → C.S F' H' σ ρ' → Fm σ ρ0 F0 H0 ρ' F' H' → RepA C.X.K C.X.mg C.G H0 F' H' σ ρ' v x → Q v H') : rwC C.X fv vs H Q := by
  obtain ⟨ds, kk, e1, e2, h1⟩ := h
  rw [e2] at g
  cases q : f ds with
  | none => rw [q] at g; exact g.elim
  | some z => exact ho ds z q F H vs _ S.b.fz (views_now S r e1) fun v F' H' x1 r1 => k (.d z) ρ F' H' v (by rw [e2, q]; exact h1 z) (S.ext x1) (fm.trans x1.fm) r1
theorem pek_blt {f : List D → Option D} {Φ : Av → List Sl → R β → Prop} (ho : CallOk C.X (.builtin id) f) (hm : C.X.mg x = none) (h : PAk C (e :: es) ρ m fun xs ρ1 m1 => AfterL ρ1 f xs m1 Φ)
    (hg : Gl C.X x := by rfl) (hv : bootBuiltins x = some (.builtin id) := by decide +kernel) (hn : x ≠ "__name__" := by decide) (hdb : (x == ("__debug__" : Str)) = false := by decide)
    (he : starEach (e :: es) C.X.env = (false, eval e C.X.env) :: starEach es C.X.env := by rfl) (hpl : (backTo pos (starEach es C.X.env)).any (·.1) = false := by rfl) : PEk C (.Call (.Name x p) (e :: es) [] pos) ρ m Φ := fun g σ H Q F S k =>
  ⟨_, pe_callB callr_any hg hm hv pa_tw hn hdb he hpl, h g σ H _ F S fun xs ρ1 F1 H1 vs hx S1 f1 r1 => hx.use ho g S1 f1 r1 k⟩
theorem pek_ty {f : List D → Option D} {Φ : Av → List Sl → R β → Prop} (ho : CallOk C.X (.type T) f) (hm : C.X.mg x = none) (h : PAk C (e :: es) ρ m fun xs ρ1 m1 => AfterL ρ1 f xs m1 Φ)
    (hg : Gl C.X x := by rfl) (hv : bootBuiltins x = some (.type T) := by decide +kernel) (hn : x ≠ "__name__" := by decide) (hdb : (x == ("__debug__" : Str)) = false := by decide)
    (he : starEach (e :: es) C.X.env = (false, eval e C.X.env) :: starEach es C.X.env := by rfl) (hpl : (backTo pos (starEach es C.X.env)).any (·.1) = false := by rfl) : PEk C (.Call (.Name x p) (e :: es) [] pos) ρ m Φ := fun g σ H Q F S k =>
  ⟨_, pe_callTy callr_any hg hm hv pa_tw hn hdb he hpl, h g σ H _ F S fun xs ρ1 F1 H1 vs hx S1 f1 r1 => hx.use ho g S1 f1 r1 k⟩
/-- list(x): a fresh list -/
def listD : D → Option (List D)
  | .list ds => some ds
  | .tuple ds => some ds
  | _ => none
theorem pek_list {Φ : Av → List Sl → R β → Prop} (hm : C.X.mg x = none) (h : PAk C [e] ρ m fun xs ρ1 m1 => ∃ d k, viewsL ρ1 xs = some [d] ∧ m1 = R.opt (listD d) k ∧ ∀ z, Φ (.o (.ls z)) ρ1 (k z))
    (hg : Gl C.X x := by rfl) (hv : bootBuiltins x = some (.type "list") := by decide +kernel) (hn : x ≠ "__name__" := by decide) (hdb : (x == ("__debug__" : Str)) = false := by decide)
    (he : starEach [e] C.X.env = (false, eval e C.X.env) :: starEach [] C.X.env := by rfl) (hpl : (backTo pos (starEach [] C.X.env)).any (·.1) = false := by rfl) : PEk C (.Call (.Name x p) [e] [] pos) ρ m Φ := fun g σ H Q F S k =>
  ⟨_, pe_callTy call_list_of hg hm hv pa_tw hn hdb he hpl, h g σ H _ F S fun xs ρ1 F1 H1 vs hx S1 f1 r1 => by
    obtain ⟨d, kk, e1, e2, h1⟩ := hx
    obtain ⟨v, rfl, hv⟩ := (views_now S1 r1 e1).one
    rw [e2] at g
    cases d with
    | list ds =>
      obtain ⟨a, xs, rfl, ha, ra⟩ := hv
      refine ⟨a, xs, rfl, .inl ha, fun l hl => ?_⟩
      obtain ⟨x1, q⟩ := new_list S1 hl ra
      exact k _ ρ1 F1 _ _ (by rw [e2]; exact h1 ds) (S1.ext x1) (f1.trans x1.fm) (q.back f1.fr.tr)
    | tuple ds =>
      obtain ⟨a, xs, rfl, ha, ra⟩ := hv
      refine ⟨a, xs, rfl, .inr ha, fun l hl => ?_⟩
      obtain ⟨x1, q⟩ := new_list S1 hl ra
      exact k _ ρ1 F1 _ _ (by rw [e2]; exact h1 ds) (S1.ext x1) (f1.trans x1.fm) (q.back f1.fr.tr)
    | _ => exact g.elim⟩
/-! ### isinstance -/
def isIntD : D → Bool
  | .int _ | .bool _ => true
  | _ => false
def isTupD : D → Bool
  | .tuple _ => true
  | _ => false
def IsOk (K : PySem.W.Frag) (T : String) (f : D → Bool) : Prop := ∀ (F : Addr → Prop) (H : Hp) v d, Now K F H v d → ∃ t, TyX K H v t ∧ PySem.W.kitOne K t (.type T) = some (f d)
theorem tyx_list {K : PySem.W.Frag} {H : Hp} {a : Addr} {xs : List V} (h : SqL K H a xs) : TyX K H (.ref a) (.type "list") := by
  rcases h with (h | ⟨o, h⟩) | ⟨o, its, n, h, c, _⟩
  · exact .base (.lst h)
  · exact .base (.frz h)
  · exact .kList h c
theorem tyx_tup {K : PySem.W.Frag} {H : Hp} {a : Addr} {xs : List V} (h : SqT K H a xs) : TyX K H (.ref a) (.type "tuple") := by
  rcases h with (h | ⟨o, h⟩) | ⟨o, its, n, h, c, _⟩
  · exact .base (.tup h)
  · exact .fTuple h
  · exact .kTuple h c
theorem is_int {K : PySem.W.Frag} : IsOk K "int" isIntD := fun F H v d h => by
  cases d with
  | none => cases h; exact ⟨_, .base .non, kit_ty (show kitB "NoneType" "int" = some false by decide +kernel)⟩
  | bool b => cases h; exact ⟨_, .base (.bl b), kit_ty (show kitB "bool" "int" = some true by decide +kernel)⟩
  | int b => cases h; exact ⟨_, .base (.int b), kit_ty (show kitB "int" "int" = some true by decide +kernel)⟩
  | str b => cases h; exact ⟨_, .base (.str b), kit_ty (show kitB "str" "int" = some false by decide +kernel)⟩
  | list ds => obtain ⟨a, xs, rfl, ha, _⟩ := h; exact ⟨_, tyx_list ha, kit_ty (show kitB "list" "int" = some false by decide +kernel)⟩
  | tuple ds => obtain ⟨a, xs, rfl, ha, _⟩ := h; exact ⟨_, tyx_tup ha, kit_ty (show kitB "tuple" "int" = some false by decide +kernel)⟩
  | dict kv => exact h.elim
theorem is_tup {K : PySem.W.Frag} : IsOk K "tuple" isTupD := fun F H v d h => by
  cases d with
  | none => cases h; exact ⟨_, .base .non, kit_ty (show kitB "NoneType" "tuple" = some false by decide +kernel)⟩
  | bool b => cases h; exact ⟨_, .base (.bl b), kit_ty (show kitB "bool" "tuple" = some false by decide +kernel)⟩
  | int b => cases h; exact ⟨_, .base (.int b), kit_ty (show kitB "int" "tuple" = some false by decide +kernel)⟩
  | str b => cases h; exact ⟨_, .base (.str b), kit_ty (show kitB "str" "tuple" = some false by decide +kernel)⟩
  | list ds => obtain ⟨a, xs, rfl, ha, _⟩ := h; exact ⟨_, tyx_list ha, kit_ty (show kitB "list" "tuple" = some false by decide +kernel)⟩
  | tuple ds => obtain ⟨a, xs, rfl, ha, _⟩ := h; exact ⟨_, tyx_tup ha, kit_ty (show kitB "tuple" "tuple" = some true by decide +kernel)⟩
  | dict kv => exact h.elim
theorem pek_isi {f : D → Bool} {y : Str} {p2 : Pos} {Φ : Av → List Sl → R β → Prop} (ho : IsOk C.X.K T f) (hm : C.X.mg "isinstance" = none) (hmT : C.X.mg y = none)
    (h : PEk C e ρ m fun x ρ1 m1 => AfterN ρ1 f x m1 fun c m2 => Φ (.d (.bool c)) ρ1 m2)
    (hvT : bootBuiltins y = some (.type T) := by decide +kernel) (hnT : y ≠ "__name__" := by decide) (hdT : (y == ("__debug__" : Str)) = false := by decide) (hg : Gl C.X "isinstance" := by rfl) (hgT : Gl C.X y := by rfl)
    (hs1 : starEach [e, .Name y p2] C.X.env = (false, eval e C.X.env) :: starEach [.Name y p2] C.X.env := by rfl) (hs2 : starEach [.Name y p2] C.X.env = (false, eval (.Name y p2) C.X.env) :: starEach [] C.X.env := by rfl)
    (hpl : (backTo pos (starEach [.Name y p2] C.X.env)).any (·.1) = false := by rfl) : PEk C (.Call (.Name "isinstance" p) [e, .Name y p2] [] pos) ρ m Φ := fun g σ H Q F S k =>
  ⟨_, pe_callB call_isi hg hm (by decide +kernel) (pa_cons pe_tw (pa_cons (pe_bltn (v := .ty T) hgT hmT hvT rfl hnT hdT) pa_nil hs2) hs1) (by decide) (by decide) hs1 hpl, h g σ H _ F S fun x ρ1 F1 H1 v hx S1 f1 r1 => by
    obtain ⟨d, e1, hc⟩ := hx.use
    obtain ⟨t, ht, hk⟩ := ho F1 H1 v d (r1.now S1 e1)
    exact ⟨v, .ty T, t, .type T, f d, rfl, .ty T, ht, hk, k _ ρ1 F1 H1 _ hc S1 f1 (.bl _)⟩⟩

/-! ### subscripts -/
def ixD : D → D → Option D
  | .tuple ds, .int i => atI ds i
  | .list ds, .int i => atI ds i
  | .str x, .int i => if x.length ≤ sizeLine then (atI x.cps.toList i).map fun c => .str ⟨#[c]⟩ else none
  | _, _ => none
theorem RepL.at {K : PySem.W.Frag} {F : Addr → Prop} {H : Hp} {xs : List V} {ds : List D} (r : RepL K F H xs ds) {i : Int} {d : D} (e : atI ds i = some d) : ∃ v, atI xs i = some v ∧ Rep K F H v d := by
  unfold atI at e ⊢
  rw [r.length]
  cases q : ixN ds.length i with
  | none => rw [q] at e; cases e
  | some j =>
    rw [q] at e
    exact r.getD e
theorem pek_ix {Φ : Av → List Sl → R β → Prop} (h : PEk C a ρ m fun x ρ1 m1 => PEk C b ρ1 m1 fun y ρ2 m2 => ∃ dx dy k, view ρ2 x = some dx ∧ view ρ2 y = some dy ∧ m2 = R.opt (ixD dx dy) k ∧ ∀ z, Φ (.d z) ρ2 (k z))
    (hs : PlainIx b := by exact fun _ _ => rfl) : PEk C (.Subscript a b pos) ρ m Φ := fun g σ H Q F S k =>
  ⟨_, pe_ix ixr_any pe_tw pe_tw hs, h g σ H _ F S fun x ρ1 F1 H1 v hx S1 f1 r1 => hx g σ H1 _ F1 S1 fun y ρ2 F2 H2 u hy S2 f2 r2 => by
    obtain ⟨dx, dy, kk, e1, e2, e3, h1⟩ := hy
    have q1 := (r1.keep S1 f2).now S2 e1
    have q2 := r2.now S2 e2
    rw [e3] at g
    have fin : ∀ z w, ixD dx dy = some z → Rep C.X.K F2 H2 w z → Q w H2 := fun z w hz hw => k (.d z) ρ2 F2 H2 w (by rw [e3, hz]; exact h1 z) S2 (f1.trans f2) hw
    cases q : ixD dx dy with
    | none => rw [q] at g; exact g.elim
    | some z =>
      unfold ixD at q
      split at q
      · cases q2
        obtain ⟨p, xs, rfl, hp, rp⟩ := q1
        obtain ⟨w, h2, h3⟩ := rp.at q
        exact ⟨_, ix_tup, p, xs, _, w, rfl, rfl, hp, h2, fin z w (by unfold ixD; exact q) h3⟩
      · cases q2
        obtain ⟨p, xs, rfl, hp, rp⟩ := q1
        obtain ⟨w, h2, h3⟩ := rp.at q
        exact ⟨_, ix_list, p, xs, _, w, rfl, rfl, hp, h2, fin z w (by unfold ixD; exact q) h3⟩
      · cases q1; cases q2
        have q0 := q
        split at q
        · rename_i hz
          cases h4 : atI _ _ with
          | none => rw [h4] at q; cases q
          | some c =>
            rw [h4] at q
            cases q
            exact ⟨_, ix_str, _, _, c, rfl, rfl, hz, h4, fin _ _ (by unfold ixD; exact q0) (.str _)⟩
        · cases q
      · cases q⟩

/-! ### slices -/
def POk (C : Cm) (e : Option Expr) (ρ : List Sl) (m : R β) (Φ : Option Int → List Sl → R β → Prop) : Prop :=
  Good C m → ∀ (σ : St) (H : Hp) (Q : Option Int → Hp → Prop) (F : Addr → Prop), C.S F H σ ρ →
    (∀ i ρ' F' H', Φ i ρ' m → C.S F' H' σ ρ' → Fm σ ρ F H ρ' F' H' → Q i H') → ∃ t, PO C.X e t ∧ t σ H Q
theorem po_any {X : Cx} {e : Option Expr} : PO X e (fun σ H Q => ∃ t, PO X e t ∧ t σ H Q) := ⟨fun pins s σ H Q I ⟨_, ht, hq⟩ => ht.run pins s σ H Q I hq⟩
theorem pok_none {Φ : Option Int → List Sl → R β → Prop} (h : Φ none ρ m) : POk C none ρ m Φ := fun g σ H Q F S k => ⟨_, po_none, k none ρ F H h S (.refl _ _ _ _)⟩
theorem pok_some {Φ : Option Int → List Sl → R β → Prop} (h : PEk C e ρ m fun x ρ1 m1 => ∃ i k, x = .d i ∧ m1 = R.opt (match i with | .int j => some j | _ => none) k ∧ ∀ j, Φ (some j) ρ1 (k j)) : POk C (some e) ρ m Φ := fun g σ H Q F S k =>
  ⟨_, po_some pe_tw, h g σ H _ F S fun x ρ1 F1 H1 v hx S1 f1 r1 => by
    obtain ⟨i, kk, rfl, e2, h1⟩ := hx
    rw [e2] at g
    have r1 : Rep _ _ _ v i := r1
    cases r1 <;> first
      | exact g.elim
      | exact ⟨_, rfl, k _ ρ1 F1 H1 (by rw [e2]; exact h1 _) S1 f1⟩⟩
def cutL {α : Type} (xs : List α) (lo hi : Option Int) : List α := (xs.drop (HT.sIx xs.length 0 lo)).take (HT.sIx xs.length xs.length hi - HT.sIx xs.length 0 lo)
def slD : D → Option Int → Option Int → Option D
  | .tuple ds, lo, hi => some (.tuple (cutL ds lo hi))
  | .list ds, lo, hi => some (.list (cutL ds lo hi))
  | .str x, lo, hi => if x.length ≤ sizeLine then some (.str (cutS x lo hi)) else none
  | _, _, _ => none
theorem RepL.cut {K : PySem.W.Frag} {F : Addr → Prop} {H : Hp} {xs : List V} {ds : List D} (r : RepL K F H xs ds) (lo hi : Option Int) : RepL K F H (cutV xs lo hi) (cutL ds lo hi) := by
  unfold cutV cutL
  rw [r.length]
  exact (r.drop _).take _
theorem cutL_whole {α : Type} {xs : List α} {lo hi : Option Int} (h : HT.sIx xs.length 0 lo = 0 ∧ HT.sIx xs.length xs.length hi = xs.length) : cutL xs lo hi = xs := by
  unfold cutL
  rw [h.1, h.2]
  simp
theorem pek_sl {lo hi : Option Expr} {p2 : Pos} {Φ : Av → List Sl → R β → Prop}
    (h : PEk C a ρ m fun x ρ1 m1 => POk C lo ρ1 m1 fun l ρ2 m2 => POk C hi ρ2 m2 fun u ρ3 m3 => ∃ dx k, view ρ3 x = some dx ∧ m3 = R.opt (slD dx l u) k ∧ ∀ z, Φ (.d z) ρ3 (k z)) : PEk C (.Subscript a (.Slice lo hi none p2) pos) ρ m Φ := fun g σ H Q F S k =>
  ⟨_, pe_slice slr_any pe_tw po_any po_any, h g σ H _ F S fun x ρ1 F1 H1 v hx S1 f1 r1 => hx g σ H1 _ F1 S1 fun l ρ2 F2 H2 hy S2 f2 => hy g σ H2 _ F2 S2 fun u ρ3 F3 H3 hz S3 f3 => by
    obtain ⟨dx, kk, e1, e3, h1⟩ := hz
    have q1 := ((r1.keep S1 f2).keep S2 f3).now S3 e1
    have fm := (f1.trans f2).trans f3
    rw [e3] at g
    have fin : ∀ z w F4 H4, slD dx l u = some z → Ext F3 H3 F4 H4 → Rep C.X.K F4 H4 w z → Q w H4 := fun z w F4 H4 hz x4 hw => k (.d z) ρ3 F4 H4 w (by rw [e3, hz]; exact h1 z) (S3.ext x4) (fm.trans x4.fm) hw
    cases dx with
    | tuple ds =>
      obtain ⟨p, xs, rfl, hp, rp⟩ := q1
      refine ⟨_, sl_tupA, p, xs, rfl, hp, fun hw => ?_, fun _ l' hl => ?_⟩
      · rw [rp.length] at hw
        exact fin _ _ F3 H3 rfl (.refl S3.b.fz) (by rw [cutL_whole hw]; exact .tup hp rp)
      · have x1 : Ext F3 H3 F3 (upd H3 l' (.tup (cutV xs l u))) := .new S3.b.fz hl
        exact fin _ _ _ _ rfl x1 (.tup (SqT.of upd_same) ((rp.cut l u).keep own_none x1.fr))
    | list ds =>
      obtain ⟨p, xs, rfl, hp, rp⟩ := q1
      refine ⟨_, sl_list, p, xs, rfl, hp, fun l' hl => ?_⟩
      have x1 : Ext F3 H3 (fun a => F3 a ∨ a = l') (upd H3 l' (.lst (cutV xs l u))) := .newF S3.b.fz hl
      exact fin _ _ _ _ rfl x1 (.lst (.inr rfl) upd_same ((rp.cut l u).keep own_none x1.fr))
    | str z =>
      cases q1
      by_cases hz : z.length ≤ sizeLine
      · exact ⟨_, sl_str, z, rfl, hz, fin _ _ F3 H3 (by unfold slD; exact if_pos hz) (.refl S3.b.fz) (.str _)⟩
      · have : slD (.str z) l u = none := if_neg hz
        rw [this] at g; exact g.elim
    | _ => exact g.elim⟩
end
end MX

set_option Elab.async false
set_option linter.all false
set_option maxRecDepth 100000
set_option maxHeartbeats 4000000
/-! MXStm: statements. -/
namespace MX
open PySem PySem.Spec PyProof.Rows L2

section
variable {C : Cm} {β : Type} {Ψ : Psi β} {ρ : List Sl} {m : R β} {pos : Pos} {a b e : Expr} {es : List Expr} {x : Str} {st : Stmt} {sts : List Stmt}

/-! ### ends -/
theorem Ends'.mono {D : Ends} {σ σ' : St} {ρ' : List Sl} {F F' : Addr → Prop} {H H' : Hp} (h : Ends' C Ψ m D σ ρ F H) (f : Fs σ ρ F H σ' ρ' F' H') : Ends' C Ψ m D σ' ρ' F' H' :=
  ⟨fun r F2 H2 s2 p S q => h.nx r F2 H2 s2 p S (f.trans q), fun r r2 F2 H2 s2 v p S q w => h.rt r r2 F2 H2 s2 v p S (f.trans q) w, fun r F2 H2 s2 p S q => h.bk r F2 H2 s2 p S (f.trans q), fun r F2 H2 s2 p S q => h.ct r F2 H2 s2 p S (f.trans q)⟩
theorem psk_nil (h : Ψ.nx ρ m) : PSk C [] ρ m Ψ := fun g D σ H F S k => ⟨_, pss_nil, k.nx ρ F H σ h S (.refl _ _ _ _)⟩
theorem psk_one (h : PS1 C st ρ m Ψ) : PSk C [st] ρ m Ψ := fun g D σ H F S k => ⟨_, pss_one ps_tw, h g D σ H F S k⟩
theorem psk_cons (h : PS1 C st ρ m { Ψ with nx := fun ρ' m' => PSk C sts ρ' m' Ψ }) : PSk C (st :: sts) ρ m Ψ := fun g D σ H F S k =>
  ⟨_, pss_cons ps_tw pss_tw, h g _ σ H F S ⟨fun ρ' F' H' σ' hp S' f => hp g D σ' H' F' S' (k.mono f), k.rt, k.bk, k.ct⟩⟩
theorem psk_stuck : PSk C sts ρ (R.stuck : R β) Ψ := fun g => g.elim
theorem psk_imp {Ψ' : Psi β} (h : PSk C sts ρ m Ψ) (h1 : ∀ ρ, Ψ.nx ρ m → Ψ'.nx ρ m) (h2 : ∀ r ρ, Ψ.rt r ρ m → Ψ'.rt r ρ m) (h3 : ∀ ρ, Ψ.bk ρ m → Ψ'.bk ρ m) (h4 : ∀ ρ, Ψ.ct ρ m → Ψ'.ct ρ m) : PSk C sts ρ m Ψ' := fun g D σ H F S k =>
  h g D σ H F S ⟨fun r F2 H2 s2 p => k.nx r F2 H2 s2 (h1 r p), fun r r2 F2 H2 s2 v p => k.rt r r2 F2 H2 s2 v (h2 r r2 p), fun r F2 H2 s2 p => k.bk r F2 H2 s2 (h3 r p), fun r F2 H2 s2 p => k.ct r F2 H2 s2 (h4 r p)⟩

/-! ### forgetting slots -/
inductive Wk : List Sl → List Sl → Prop
  | nil : Wk [] []
  | keep {s : Sl} {ρ ρ' : List Sl} : Wk ρ ρ' → Wk (s :: ρ) (s :: ρ')
  | drop {s : Sl} {ρ ρ' : List Sl} : Wk ρ ρ' → Wk (s :: ρ) (.no :: ρ')
theorem Wk.refl : ∀ ρ : List Sl, Wk ρ ρ
  | [] => .nil
  | _ :: r => .keep (Wk.refl r)
theorem Wk.len {ρ ρ' : List Sl} (w : Wk ρ ρ') : ρ.length = ρ'.length := by
  induction w with
  | nil => rfl
  | keep _ ih => rw [List.length_cons, List.length_cons, ih]
  | drop _ ih => rw [List.length_cons, List.length_cons, ih]
theorem Wk.get : ∀ {ρ ρ' : List Sl}, Wk ρ ρ' → ∀ {i : Nat} {s : Sl}, ρ'[i]? = some s → ρ[i]? = some s ∨ (s = .no ∧ ∃ u, ρ[i]? = some u)
  | _, _, .keep w, 0, s, e => .inl (by simpa using e)
  | _, _, .keep w, i + 1, s, e => by
    have := w.get (i := i) (s := s) (by simpa using e)
    simpa using this
  | _, _, .drop w, 0, s, e => by
    simp at e
    subst e
    exact .inr ⟨rfl, _, rfl⟩
  | _, _, .drop w, i + 1, s, e => by
    have := w.get (i := i) (s := s) (by simpa using e)
    simpa using this
theorem Wk.ow {ρ ρ' : List Sl} (w : Wk ρ ρ') {σ : St} {a : Addr} : Ow σ ρ' a → Ow σ ρ a := fun ⟨i, t, o, h1, h2⟩ => by
  rcases w.get h1 with q | ⟨q, _⟩
  · exact ⟨i, t, o, q, h2⟩
  · cases q
theorem Wk.so {K : PySem.W.Frag} {mg : Str → Option Value} {G : Gh} {F : Addr → Prop} {H : Hp} {σ : St} {ρ ρ' : List Sl} (w : Wk ρ ρ') (S : SO K mg G F H σ ρ) : SO K mg G F H σ ρ' where
  b := S.b
  len := S.len.trans w.len
  sl := fun i s e => by
    rcases w.get e with q | ⟨rfl, u, q⟩
    · exact S.sl i s q
    · obtain ⟨v, e', _⟩ := S.sl i u q
      exact ⟨v, e', trivial⟩
  dj := fun i j ti oi tj oj a h1 h2 h3 h4 => by
    have q1 : ρ[i]? = some (.ow ti oi) := (w.get h1).resolve_right fun z => by cases z.1
    have q2 : ρ[j]? = some (.ow tj oj) := (w.get h2).resolve_right fun z => by cases z.1
    exact S.dj i j _ _ _ _ a q1 q2 h3 h4
theorem Wk.fs {ρ ρ' : List Sl} (w : Wk ρ ρ') (σ : St) (F : Addr → Prop) (H : Hp) : Fs σ ρ F H σ ρ' F H := ⟨.refl _ _ _, fun a z => .inl (w.ow z)⟩

/-! ### storing in a slot -/
theorem get_set {α : Type} {l : List α} {i j : Nat} {x y : α} (h : (l.set i x)[j]? = some y) : (i = j ∧ x = y) ∨ (i ≠ j ∧ l[j]? = some y) := by
  by_cases q : i = j
  · subst q
    by_cases hi : i < l.length
    · rw [List.getElem?_set_self hi] at h
      exact .inl ⟨rfl, Option.some.inj h⟩
    · rw [List.getElem?_eq_none (by simpa using hi)] at h
      cases h
  · rw [List.getElem?_set_ne q] at h
    exact .inr ⟨q, h⟩
section
variable {K : PySem.W.Frag} {mg : Str → Option Value} {G : Gh} {F : Addr → Prop} {H : Hp} {σ : St}
theorem ow_set {i : Nat} {v : V} {s : Sl} {a : Addr} (z : Ow (σ.set i (some v)) (ρ.set i s) a) : (v = .ref a ∧ ∃ t o, s = .ow t o) ∨ Ow σ ρ a := by
  obtain ⟨j, t, o, h1, h2⟩ := z
  rcases get_set h1 with ⟨rfl, q⟩ | ⟨ne, q⟩
  · rcases get_set h2 with ⟨_, q2⟩ | ⟨ne, _⟩
    · cases q2; exact .inl ⟨rfl, t, o, q⟩
    · exact absurd rfl ne
  · rcases get_set h2 with ⟨r, _⟩ | ⟨_, q2⟩
    · exact absurd r ne
    · exact .inr ⟨j, t, o, q, q2⟩
/-- a slot gets a value that is not owned -/
theorem SO.set (S : SO K mg G F H σ ρ) {i : Nat} {v : V} {s : Sl} (ns : ∀ t o, s ≠ .ow t o) (ok : SlOk K mg G F H (some v) s) : SO K mg G F H (σ.set i (some v)) (ρ.set i s) ∧ Fs σ ρ F H (σ.set i (some v)) (ρ.set i s) F H := by
  refine ⟨⟨S.b, by rw [List.length_set, List.length_set]; exact S.len, fun j s' h => ?_, fun j l tj oj tl ol c h1 h2 h3 h4 => ?_⟩, .refl _ _ _, fun c z => (ow_set z).elim (fun ⟨_, t, o, q⟩ => absurd q (ns t o)) .inl⟩
  · rcases get_set h with ⟨rfl, rfl⟩ | ⟨ne, q⟩
    · have hi : i < σ.length := by
        rw [S.len]
        have := (List.getElem?_eq_some_iff.mp h).1
        simpa using this
      exact ⟨some v, List.getElem?_set_self hi, ok⟩
    · obtain ⟨u, e, k⟩ := S.sl j s' q
      exact ⟨u, by rw [List.getElem?_set_ne ne]; exact e, k⟩
  · rcases get_set h1 with ⟨rfl, q⟩ | ⟨n1, q1⟩
    · exact absurd q (ns _ _)
    · rcases get_set h2 with ⟨rfl, q⟩ | ⟨n2, q2⟩
      · exact absurd q (ns _ _)
      · rw [List.getElem?_set_ne n1] at h3
        rw [List.getElem?_set_ne n2] at h4
        exact S.dj j l _ _ _ _ c q1 q2 h3 h4
/-- a slot gets a fresh object -/
theorem SO.setO (S : SO K mg G F H σ ρ) {i : Nat} {p : Addr} {ob : Ob} (r : RepO K F H p ob) (nf : ¬ F p) (g0 : G.H0 p = none) (no : ¬ Ow σ ρ p) :
    SO K mg G F H (σ.set i (some (.ref p))) (ρ.set i (.ow none ob)) := by
  refine ⟨S.b, by rw [List.length_set, List.length_set]; exact S.len, fun j s' h => ?_, fun j l tj oj tl ol c h1 h2 h3 h4 => ?_⟩
  · rcases get_set h with ⟨rfl, rfl⟩ | ⟨ne, q⟩
    · have hi : i < σ.length := by
        rw [S.len]
        have := (List.getElem?_eq_some_iff.mp h).1
        simpa using this
      exact ⟨_, List.getElem?_set_self hi, p, rfl, r, nf, g0⟩
    · obtain ⟨u, e, k⟩ := S.sl j s' q
      exact ⟨u, by rw [List.getElem?_set_ne ne]; exact e, k⟩
  · rcases get_set h1 with ⟨e1, q1⟩ | ⟨n1, q1⟩
    · rcases get_set h2 with ⟨e2, q2⟩ | ⟨n2, q2⟩
      · exact e1.symm.trans e2
      · rw [List.getElem?_set_ne n2] at h4
        subst e1
        rcases get_set h3 with ⟨_, q⟩ | ⟨q, _⟩
        · cases q
          exact absurd ⟨l, tl, ol, q2, h4⟩ no
        · exact absurd rfl q
    · rw [List.getElem?_set_ne n1] at h3
      rcases get_set h2 with ⟨e2, q2⟩ | ⟨n2, q2⟩
      · subst e2
        rcases get_set h4 with ⟨_, q⟩ | ⟨q, _⟩
        · cases q
          exact absurd ⟨j, tj, oj, q1, h3⟩ no
        · exact absurd rfl q
      · rw [List.getElem?_set_ne n2] at h4
        exact S.dj j l _ _ _ _ c q1 q2 h3 h4
/-- the owned object of slot i is changed -/
theorem SO.put (S : SO K mg G F H σ ρ) {i : Nat} {t : Option Nat} {o ob : Ob} {p : Addr} {ho : HO} (hρ : ρ[i]? = some (.ow t o)) (hσ : σ[i]? = some (some (.ref p))) (mu : Mut (some ho)) (r : RepO K F (upd H p ho) p ob) :
    SO K mg G F (upd H p ho) σ (ρ.set i (.ow t ob)) ∧ Fm σ ρ F H (ρ.set i (.ow t ob)) F (upd H p ho) := by
  have hOp : Ow σ ρ p := ⟨i, t, o, hρ, hσ⟩
  have hi : i < ρ.length := (List.getElem?_eq_some_iff.mp hρ).1
  have nfp : ¬ F p := (S.own p hOp).1
  have fr : Fr0 (fun c => c = p) F H F (upd H p ho) := ⟨fun c u e n => by rw [upd_ne n]; exact e, fun _ f => f, fun _ f => .inl f, fun c h => by
    by_cases q : c = p
    · subst q; rw [upd_same] at h; cases h
    · rw [upd_ne q] at h; exact h⟩
  have own : Own (fun c => c = p) F H := fun c q => by subst q; exact ⟨nfp, (S.own c hOp).2⟩
  obtain ⟨u0, e0, a0, f0, _, _, k0⟩ := S.sl i _ hρ
  rw [hσ] at e0; cases e0; cases f0
  refine ⟨⟨⟨fun c f => ?_, S.b.wf, fun j c e => ?_, fun c u e n => ?_, S.b.f0, S.b.fn, S.b.w0, S.b.wi⟩, by rw [List.length_set]; exact S.len, fun j s' h => ?_, fun j l tj oj tl ol c h1 h2 h3 h4 => ?_⟩,
    ⟨fun c u e n => by
      have hne : c ≠ p := fun q => n (by rw [q]; exact hOp)
      rw [upd_ne hne]; exact e, fun _ f => f, fun _ f => .inl f, fr.tr⟩, fun c ⟨j, tj, oj, h1, h2⟩ => .inl ?_⟩
  · obtain ⟨xs, e⟩ := S.b.fz c f
    have hne : c ≠ p := fun q => nfp (by rw [← q]; exact f)
    exact ⟨xs, by rw [upd_ne hne]; exact e⟩
  · by_cases q : c = p
    · subst q; rw [upd_same]; exact mu
    · rw [upd_ne q]; exact S.b.wl j c e
  · have hc : c ≠ p := fun q => by
      subst q
      cases t with
      | none => have : G.H0 c = none := k0; rw [this] at e; cases e
      | some j => exact n j k0
    rw [upd_ne hc]
    exact S.b.kp c u e n
  · rcases get_set h with ⟨rfl, rfl⟩ | ⟨ne, q⟩
    · exact ⟨_, hσ, p, rfl, r, nfp, k0⟩
    · obtain ⟨u, e, k⟩ := S.sl j s' q
      refine ⟨u, e, ?_⟩
      cases s' with
      | no => trivial
      | va d => exact k.keep own fr (by simp)
      | fz d => exact k.keep own fr (by simp)
      | fn d => exact k
      | ow t' o' =>
        obtain ⟨c, ec, rc, nc, kc⟩ := k
        subst ec
        exact ⟨c, rfl, rc.keep own fr (fun z => by
          subst z
          exact ne (S.dj i j _ _ _ _ c hρ q hσ e)), nc, kc⟩
  · have old : ∀ {l : Nat} {t' o'}, (ρ.set i (Sl.ow t ob))[l]? = some (.ow t' o') → ∃ t2 o2, ρ[l]? = some (.ow t2 o2) := fun {l t' o'} hl => by
      rcases get_set hl with ⟨rfl, _⟩ | ⟨_, q⟩
      · exact ⟨t, o, hρ⟩
      · exact ⟨_, _, q⟩
    obtain ⟨_, _, q1⟩ := old h1
    obtain ⟨_, _, q2⟩ := old h2
    exact S.dj j l _ _ _ _ c q1 q2 h3 h4
  · rcases get_set h1 with ⟨rfl, q⟩ | ⟨_, q⟩
    · exact ⟨i, t, o, hρ, h2⟩
    · exact ⟨j, tj, oj, q, h2⟩
end

/-! ### assignments -/
theorem ps1_set (i : Nat) {pos' : Pos} (h : PEk C e ρ m fun x ρ1 m1 => ∃ d, x = .d d ∧ Ψ.nx (ρ1.set i (.va d)) m1) (hN : C.X.N.Nodup) (hi : C.X.N[i]? = some x := by rfl) (hx : Loc C.X.env.scope x := by first | exact Or.inl rfl | exact Or.inr rfl)
    (hs : swapsWith e (some (.Name x pos')) pos.line C.X.env = pure false := by rfl) (hf : C.X.fn x = true ∨ C.X.env.scope.names.lookup x = some .local := by first | exact .inl rfl | exact .inr rfl) : PS1 C (.Assign [.Name x pos'] e pos) ρ m Ψ := fun g D σ H F S k =>
  ⟨_, ps_set hN hi hx pe_tw hs hf, h g σ H _ F S fun x ρ1 F1 H1 v hx S1 f1 r1 => by
    obtain ⟨d, rfl, hΨ⟩ := hx
    obtain ⟨S2, f2⟩ := S1.set (i := i) (v := v) (s := .va d) (by simp) ⟨v, rfl, r1⟩
    exact k.nx _ F1 H1 _ hΨ S2 (f1.fs.trans f2)⟩
theorem ps1_setO (i : Nat) {pos' : Pos} (h : PEk C e ρ m fun x ρ1 m1 => ∃ ob, x = .o ob ∧ Ψ.nx (ρ1.set i (.ow none ob)) m1) (hN : C.X.N.Nodup) (hi : C.X.N[i]? = some x := by rfl) (hx : Loc C.X.env.scope x := by first | exact Or.inl rfl | exact Or.inr rfl)
    (hs : swapsWith e (some (.Name x pos')) pos.line C.X.env = pure false := by rfl) (hf : C.X.fn x = true ∨ C.X.env.scope.names.lookup x = some .local := by first | exact .inl rfl | exact .inr rfl) : PS1 C (.Assign [.Name x pos'] e pos) ρ m Ψ := fun g D σ H F S k =>
  ⟨_, ps_set hN hi hx pe_tw hs hf, h g σ H _ F S fun x ρ1 F1 H1 v hx S1 f1 r1 => by
    obtain ⟨ob, rfl, hΨ⟩ := hx
    obtain ⟨p, rfl, r, nf, g0, no, hs0⟩ := r1
    have S2 := S1.setO (i := i) r nf g0 no
    refine k.nx _ F1 H1 _ hΨ S2 ⟨f1.fr, fun a z => ?_⟩
    rcases ow_set z with ⟨q, _⟩ | q
    · cases q
      exact .inr hs0
    · exact f1.ow a q⟩
/-! ### targets -/
def PGk (C : Cm) (T : List Nat) (tg : Expr) (d : D) (ρ : List Sl) (m : R β) (Φ : List Sl → R β → Prop) : Prop :=
  Good C m → ∀ (σ : St) (H : Hp) (v : V) (Q : St → Hp → Prop) (F : Addr → Prop), C.S F H σ ρ → Rep C.X.K F H v d →
    (∀ ρ' (σ' : St), Φ ρ' m → C.S F H σ' ρ' → Fs σ ρ F H σ' ρ' F H → (σ'.length = σ.length ∧ ∀ j, j ∉ T → σ'[j]? = σ[j]?) → Q σ' H) → twG C.X tg v σ H Q
theorem pgk_name (i : Nat) {T : List Nat} {d : D} {Φ : List Sl → R β → Prop} (h : Φ (ρ.set i (.va d)) m) (hN : C.X.N.Nodup) (hT : i ∈ T := by decide) (hi : C.X.N[i]? = some x := by rfl) (hx : Loc C.X.env.scope x := by first | exact Or.inl rfl | exact Or.inr rfl)
    (hf : C.X.fn x = true ∨ C.X.env.scope.names.lookup x = some .local := by first | exact .inl rfl | exact .inr rfl) : PGk C T (.Name x pos) d ρ m Φ := fun g σ H v Q F S r k => by
  obtain ⟨S2, f2⟩ := S.set (i := i) (v := v) (s := .va d) (by simp) ⟨v, rfl, r⟩
  exact ⟨_, pg_name hN hi hx hf, k _ _ h S2 f2 ⟨List.length_set .., fun j hj => List.getElem?_set_ne fun q => hj (by rw [← q]; exact hT)⟩⟩
/-- a, b, .. = a tuple -/
def PGsk (C : Cm) (T : List Nat) (tgs : List Expr) (ds : List D) (ρ : List Sl) (m : R β) (Φ : List Sl → R β → Prop) : Prop :=
  Good C m → ∀ (σ : St) (H : Hp) (vs : List V) (Q : St → Hp → Prop) (F : Addr → Prop), C.S F H σ ρ → RepL C.X.K F H vs ds →
    (∀ ρ' (σ' : St), Φ ρ' m → C.S F H σ' ρ' → Fs σ ρ F H σ' ρ' F H → (σ'.length = σ.length ∧ ∀ j, j ∉ T → σ'[j]? = σ[j]?) → Q σ' H) → ∃ t, PGs C.X tgs t ∧ t vs σ H Q
theorem pgs_any {X : Cx} {tgs : List Expr} : PGs X tgs (fun vs σ H Q => ∃ t, PGs X tgs t ∧ t vs σ H Q) := ⟨fun pins s σ H vs us Q I r ⟨_, ht, hq⟩ => ht.run pins s σ H vs us Q I r hq⟩
theorem pgsk_nil {T : List Nat} {Φ : List Sl → R β → Prop} (h : Φ ρ m) : PGsk C T [] [] ρ m Φ := fun g σ H vs Q F S r k => by
  cases r
  exact ⟨_, pgs_nil, rfl, k _ _ h S (.refl _ _ _ _) ⟨rfl, fun _ _ => rfl⟩⟩
theorem pgsk_cons {T : List Nat} {tg : Expr} {tgs : List Expr} {d : D} {ds : List D} {Φ : List Sl → R β → Prop} (h : PGk C T tg d ρ m fun ρ1 m1 => PGsk C T tgs ds ρ1 m1 Φ)
    (hs : (assignEach (tg :: tgs) C.X.env).map (·.2) = assign tg C.X.env :: (assignEach tgs C.X.env).map (·.2) := by rfl) : PGsk C T (tg :: tgs) (d :: ds) ρ m Φ := fun g σ H vs Q F S r k => by
  cases r with
  | cons r1 r2 =>
    exact ⟨_, pgs_cons pg_tw pgs_any hs, _, _, rfl, h g σ H _ _ F S r1 fun ρ1 σ1 h1 S1 f1 t1 => h1 g σ1 H _ Q F S1 r2 fun ρ2 σ2 h2 S2 f2 t2 => k ρ2 σ2 h2 S2 (f1.trans f2) ⟨t2.1.trans t1.1, fun j hj => (t2.2 j hj).trans (t1.2 j hj)⟩⟩
/-- the items of a tuple of n -/
def unD (n : Nat) : D → Option (List D)
  | .tuple ds => if ds.length = n then some ds else none
  | _ => none
theorem pgk_tup {T : List Nat} {tgs : List Expr} {d : D} {k' n : Nat} {Φ : List Sl → R β → Prop} (h : ∃ k, m = R.opt (unD n d) k ∧ ∀ ds, ds.length = n → PGsk C T tgs ds ρ (k ds) Φ) (hc : C.X.calm = true)
    (hn : (assignEach tgs C.X.env).length = n := by rfl) (hst : (assignEach tgs C.X.env).findIdx? (·.1) = none := by rfl) : PGk C T (.Tuple tgs k' pos) d ρ m Φ := fun g σ H v Q F S r k => by
  obtain ⟨kk, e, h1⟩ := h
  rw [e] at g
  cases q : unD n d with
  | none => rw [q] at g; exact g.elim
  | some ds =>
    rw [q] at g
    unfold unD at q
    split at q
    · obtain ⟨hl, rfl⟩ := ofIfB q
      cases r with
      | tup ha ra =>
        refine ⟨_, pg_tup hc pgs_any hn hst, _, _, rfl, ha, by rw [ra.length]; exact hl, h1 _ hl g σ H _ Q F S ra fun ρ' σ' hΦ => k ρ' σ' ?_⟩
        rw [e, show unD n (.tuple _) = some _ from if_pos hl]
        exact hΦ
    · cases q
theorem ps1_asg (T : List Nat) {tg : Expr} (h : PEk C e ρ m fun x ρ1 m1 => ∃ d, x = .d d ∧ PGk C T tg d ρ1 m1 Ψ.nx) (hs : swapsWithSole [tg] e pos.line C.X.env = pure false := by rfl) (hw : swappedStores [tg] e C.X.env = pure none := by rfl)
    (h1 : (assignEach [tg] C.X.env).map (·.2) = [assign tg C.X.env] := by rfl) : PS1 C (.Assign [tg] e pos) ρ m Ψ := fun g D σ H F S k =>
  ⟨_, ps_asg pe_tw pg_tw hs hw h1, h g σ H _ F S fun x ρ1 F1 H1 v hx S1 f1 r1 => by
    obtain ⟨d, rfl, hg⟩ := hx
    exact hg g σ H1 v _ F1 S1 r1 fun ρ2 σ2 h2 S2 f2 _ => k.nx ρ2 F1 H1 σ2 h2 S2 (f1.fs.trans f2)⟩

/-! ### stores into an owned list -/
def stD (ds : List D) (i d : D) : Option (List D) := match i with
  | .int j => (ixN ds.length j).map fun n => ds.set n d
  | _ => none
theorem ps1_store (i : Nat) {b' : Expr} {px spos : Pos} {y : Str} (h : PEk C e ρ m fun x ρ1 m1 => ∃ d t0 o0, x = .d d ∧ ρ1[i]? = some (.ow t0 o0) ∧ PEk C b' ρ1 m1 fun z ρ2 m2 => ∃ j t ds k, z = .d j ∧ ρ2[i]? = some (.ow t (.ls ds)) ∧ m2 = R.opt (stD ds j d) k ∧ ∀ ds', Ψ.nx (ρ2.set i (.ow t (.ls ds'))) (k ds'))
    (hN : C.X.N[i]? = some y := by rfl) (hv : Vis C.X.env.scope y := by first | exact Or.inl rfl | exact Or.inr (Or.inl rfl) | exact Or.inr (Or.inr rfl)) (hd : (y == ("__debug__" : Str)) = false := by decide) (hcd : (y == ("__classdict__" : Str)) = false := by decide)
    (hs : swapsWithSole [.Subscript (.Name y px) b' pos] e spos.line C.X.env = pure false := by rfl) (hw : swappedStores [.Subscript (.Name y px) b' pos] e C.X.env = pure none := by rfl)
    (h1 : (assignEach [.Subscript (.Name y px) b' pos] C.X.env).map (·.2) = [assign (.Subscript (.Name y px) b' pos) C.X.env] := by rfl)
    (ha : ∀ v, assign (.Subscript (.Name y px) b' pos) C.X.env v = (do
      let ov ← holding [v] (eval (.Name y px) C.X.env)
      let iv ← holding [v, ov] (eval b' C.X.env)
      standAt pos
      holding [v, ov, iv] (setItem ov iv v)
      release [v, ov, iv] []) := by intro _; rfl) : PS1 C (.Assign [.Subscript (.Name y px) b' pos] e spos) ρ m Ψ := fun g D σ H F S k =>
  ⟨_, ps_asg pe_tw (pg_sub (pe_var hN hv hd hcd) pe_tw set_list ha) hs hw h1, h g σ H _ F S fun x ρ1 F1 H1 v hx S1 f1 r1 => by
    obtain ⟨d, t0, o0, rfl, hρ1, hb⟩ := hx
    obtain ⟨u1, hw, p1, e1, _⟩ := S1.sl i _ hρ1
    subst e1
    exact ⟨.ref p1, hw, hb g σ H1 _ F1 S1 fun z ρ2 F2 H2 u hz S2 f2 r2 => by
      obtain ⟨j, t, ds, kk, rfl, hρ, e2, hk⟩ := hz
      obtain ⟨u0, e0, p, e1, ⟨xs, hp, rp⟩, _⟩ := S2.sl i _ hρ
      subst e1
      rw [hw] at e0; cases e0
      have rv := Rep.keep S1.own f2.fr r1
      have r2 : Rep _ _ _ u j := r2
      rw [e2] at g
      cases r2 with
      | int j0 =>
        cases q : ixN ds.length j0 with
        | none =>
          have : stD ds (.int j0) d = none := by show (ixN ds.length j0).map _ = none; rw [q]; rfl
          rw [this] at g; exact g.elim
        | some n =>
          have hst : stD ds (.int j0) d = some (ds.set n d) := by show (ixN ds.length j0).map _ = _; rw [q]; rfl
          refine ⟨p1, xs, j0, n, rfl, rfl, hp, by rw [rp.length]; exact q, ?_⟩
          have hOp : Ow σ ρ2 p1 := ⟨i, t, _, hρ, hw⟩
          have fr : Fr0 (fun c => c = p1) F2 H2 F2 (upd H2 p1 (.lst (xs.set n v))) := ⟨fun c u e n => by rw [upd_ne n]; exact e, fun _ f => f, fun _ f => .inl f, fun c h => by
            by_cases q : c = p1
            · subst q; rw [upd_same] at h; cases h
            · rw [upd_ne q] at h; exact h⟩
          have own : Own (fun c => c = p1) F2 H2 := fun c q => by subst q; exact ⟨(S2.own c hOp).1, (S2.own c hOp).2⟩
          obtain ⟨S3, f3⟩ := S2.put (ob := .ls (ds.set n d)) (ho := .lst (xs.set n v)) hρ hw trivial ⟨_, upd_same, (rp.set rv n).keep own fr⟩
          exact k.nx _ _ _ σ (by rw [e2, hst]; exact hk (ds.set n d)) S3 ((f1.trans f2).trans f3).fs
      | _ => exact g.elim⟩⟩
end
end MX

set_option Elab.async false
set_option linter.all false
set_option maxRecDepth 100000
set_option maxHeartbeats 4000000
/-! MXExt: list.extend of a tuple, of any list. -/
namespace MX
open PySem PySem.Spec PyProof.Rows L2
open PySem.AutoSeq1 (wpAny_loadPart')
theorem ext_tuple (l b : Addr) (xs ys : Array Value) (n k : Nat) (dd : Option Addr) (sl : Array (Option Value)) (h0 : ¬(!xs.isEmpty && Builtin.List.listTooLong (xs.size + ys.size)) = true) (h1 : xs.size ≤ sizeLine) (h2 : xs.size + ys.size ≤ sizeLine + 1) :
    Meets (Builtin.«list.extend» ⟨[.ref l, .ref b], []⟩) (fun _ Rr s => s.heap.get? l = some { cls := .type "list", dict := none, data := .seq xs n, slots := #[] } ∧ s.heap.get? b = some { cls := .type "tuple", dict := dd, data := .seq ys k, slots := sl } ∧
      Rr (.ok (.ret Value.none)) { s with heap := s.heap.update l (Obj.mapSeq fun x => x ++ ys), toks := s.toks }) :=
  .of_wp fun prog w A Rr s h => by
    obtain ⟨hp, g, d, tk, os⟩ := s
    obtain ⟨hl, hb, h⟩ := h
    have f1 := AutoSeq1.idx_int
    have f2 := AutoSeq1.sub_tuple_tuple
    have f3 := AutoSeq1.sub_list_list
    have f4 := AutoSeq1.sub_tuple_list
    have f5 := AutoSeq1.sub_list_tuple
    have hz : (xs ++ ys).size ≤ sizeLine + 1 := by rw [Array.size_append]; exact h2
    wp_walk using (wpAny_updateSeq hl rfl (hz := h1) (_hz' := hz)), wpAny_loadPart' hl, wpAny_loadPart' hb
    exact ⟨_, rfl, h⟩
def rExtT (K : PySem.W.Frag) : V → List V → Hp → VK → Prop := fun x vs H Q => ∃ l b xs zs, x = .ref l ∧ vs = [.ref b] ∧ H l = some (.lst xs) ∧ SqT K H b zs ∧ xs.length + zs.length ≤ sizeLine ∧ Q .non (upd H l (.lst (xs ++ zs)))
theorem mt_extT {X : Cx} : MtM X "list.extend" (rExtT X.K) := by
  rintro pins s σ H x vs v us Q I rx rv ⟨l, b, xs, zs, rfl, rfl, hl, hb, hz, q⟩
  cases rx
  obtain ⟨u, rfl, ru⟩ := rv.one
  cases ru
  obtain ⟨z1, i1, n, r1, len1, e1⟩ := I.lstM hl
  obtain ⟨i2, r2, ⟨⟨c2, d2, t2, s2⟩, e2, hc, k, hd⟩, z2⟩ := I.tuple hb
  have len2 := r2.length
  simp only at hc hd
  subst hc hd
  have sz : i1.toArray.size + i2.toArray.size ≤ sizeLine := by
    simp only [List.size_toArray]
    omega
  refine call_meets F.slot_list_extend ⟨_, e1, rfl⟩ F.entry_list_extend (F.args_list_extend_2 _ _) (ext_tuple l b i1.toArray i2.toArray n k d2 s2 (by rw [notLongL sz, Bool.and_false]; simp) (by simp only [List.size_toArray]; omega) (by omega)) ⟨e1, e2, ?_⟩
  exact ⟨.non, _, I.lset (its' := i1 ++ i2) hl e1 (by simp) (r1.append r2) (by rw [List.length_append]; omega), rfl, q⟩
end MX

set_option Elab.async false
set_option linter.all false
set_option maxRecDepth 100000
set_option maxHeartbeats 4000000
/-! MXBlk: calls of list methods, if, return, blocks, for. -/
namespace MX
open PySem PySem.Spec PyProof.Rows L2

def apD (ds : List D) (d : D) : Option (List D) := if ds.length < sizeLine then some (ds ++ [d]) else none
def exD (ds : List D) : D → Option (List D)
  | .list es => if ds.length + es.length ≤ sizeLine then some (ds ++ es) else none
  | .tuple es => if ds.length + es.length ≤ sizeLine then some (ds ++ es) else none
  | _ => none
section
variable {C : Cm} {β : Type} {Ψ : Psi β} {ρ : List Sl} {m : R β} {pos cpos apos px : Pos} {a b e c : Expr} {es : List Expr} {x y : Str} {st : Stmt} {sts A B : List Stmt}
/-- o.m(e), o a list that slot i owns: what the call does to the list is told by r -/
theorem ps1_meth (i : Nat) {id : String} {name : Str} {f : List D → D → Option (List D)} {r : V → List V → Hp → VK → Prop} (pa : PlainAttrs "list") (slot : Slot "list" name id) (hty : typeOf (.builtin id) = pure (.type "method_descriptor")) (hm : MtR C.X id r)
    (hr : ∀ (F : Addr → Prop) (H : Hp) (p : Addr) (xs : List V) (ds : List D) (v : V) (d : D) (zs : List D) (Q : VK), H p = some (.lst xs) → RepL C.X.K F H xs ds → NowT C.X.K F H v d → f ds d = some zs →
      (∀ ys, RepL C.X.K F H ys zs → Q .non (upd H p (.lst ys))) → r (.ref p) [v] H Q)
    (h : ∃ t0 ds0, ρ[i]? = some (.ow t0 (.ls ds0)) ∧ PEk C e ρ m fun x ρ1 m1 => ∃ t ds d k, viewT ρ1 x = some d ∧ ρ1[i]? = some (.ow t (.ls ds)) ∧ m1 = R.opt (f ds d) k ∧ ∀ zs, Ψ.nx (ρ1.set i (.ow t (.ls zs))) (k zs))
    (hN : C.X.N[i]? = some y := by rfl) (hv : Vis C.X.env.scope y := by first | exact Or.inl rfl | exact Or.inr (Or.inl rfl) | exact Or.inr (Or.inr rfl)) (hd : (y == ("__debug__" : Str)) = false := by decide) (hcd : (y == ("__classdict__" : Str)) = false := by decide)
    (hbase : attributeBase (.Name y px) name C.X.env (eval (.Name y px) C.X.env) = eval (.Name y px) C.X.env := by rfl)
    (hfew : ((backTo cpos (starEach [e] C.X.env)).all (fun x => !x.1) && (backToKw cpos (keywordEach [] C.X.env)).all (fun x => x.1.isSome)
      && decide ([e].length + ([] : List Keyword).length + (if ([] : List Keyword).isEmpty then 0 else 1) < 30)) = true := by rfl)
    (hline : (apos.endLine == cpos.line) = true := by rfl) (he : starEach [e] C.X.env = (false, eval e C.X.env) :: starEach [] C.X.env := by rfl) (hplain : (backTo cpos (starEach [] C.X.env)).any (·.1) = false := by rfl)
    (hs : swapsWith (.Call (.Attribute (.Name y px) name apos) [e] [] cpos) none pos.line C.X.env = pure false := by rfl) : PS1 C (.Expr (.Call (.Attribute (.Name y px) name apos) [e] [] cpos) pos) ρ m Ψ := fun g D σ H F S k =>
  ⟨_, ps_expr (pe_bm pa slot hty hm (pe_var hN hv hd hcd) (pa_cons pe_tw pa_nil he) hbase hfew hline he hplain) hs, by
    obtain ⟨t0, ds0, hρ, he⟩ := h
    obtain ⟨u0, hw, p, e1, ⟨xs0, hp0, _⟩, _⟩ := S.sl i _ hρ
    subst e1
    refine ⟨.ref p, hw, .inl ⟨rfl, xs0, SqL.of hp0⟩, he g σ H _ F S fun x ρ1 F1 H1 v hx S1 f1 r1 => ?_⟩
    obtain ⟨t, ds, d, kk, e2, hρ1, e3, hk⟩ := hx
    have q1 := r1.nowT S1 e2
    obtain ⟨u1, hw1, p1, e4, ⟨xs, hp, rp⟩, _⟩ := S1.sl i _ hρ1
    subst e4
    rw [hw] at hw1
    cases hw1
    rw [e3] at g
    cases q : f ds d with
    | none => rw [q] at g; exact g.elim
    | some zs =>
      show r (.ref p) [v] H1 (fun _ H2 => D.nx σ H2)
      refine hr F1 H1 p xs ds v d zs _ hp rp q1 q fun ys ry => ?_
      have hOp : Ow σ ρ1 p := ⟨i, t, _, hρ1, hw⟩
      have fr : Fr0 (fun c => c = p) F1 H1 F1 (upd H1 p (.lst ys)) := ⟨fun c u e n => by rw [upd_ne n]; exact e, fun _ f => f, fun _ f => .inl f, fun c h => by
        by_cases q : c = p
        · subst q; rw [upd_same] at h; cases h
        · rw [upd_ne q] at h; exact h⟩
      have own : Own (fun c => c = p) F1 H1 := fun c q => by subst q; exact ⟨(S1.own c hOp).1, (S1.own c hOp).2⟩
      obtain ⟨S3, f3⟩ := S1.put (ob := .ls zs) (ho := .lst ys) hρ1 hw trivial ⟨_, upd_same, ry.keep own fr⟩
      exact k.nx _ _ _ σ (by rw [e3, q]; exact hk zs) S3 (f1.trans f3).fs⟩
theorem hr_append {K : PySem.W.Frag} : ∀ (F : Addr → Prop) (H : Hp) (p : Addr) (xs : List V) (ds : List D) (v : V) (d : D) (zs : List D) (Q : VK), H p = some (.lst xs) → RepL K F H xs ds → Rep K F H v d → apD ds d = some zs →
    (∀ ys, RepL K F H ys zs → Q .non (upd H p (.lst ys))) → rAppend (.ref p) [v] H Q := fun F H p xs ds v d zs Q hp r rv e k => by
  obtain ⟨hz, rfl⟩ := ofIfB e
  exact ⟨p, xs, v, rfl, rfl, hp, by rw [r.length]; exact hz, k _ (r.append (.cons rv .nil))⟩
/-- list.extend of a list or a tuple -/
theorem mt_ext {X : Cx} : MtR X "list.extend" (fun x vs H Q => rExtend x vs H Q ∨ rExtT X.K x vs H Q) := MtR.or mt_extend mt_extT
theorem hr_extend {K : PySem.W.Frag} : ∀ (F : Addr → Prop) (H : Hp) (p : Addr) (xs : List V) (ds : List D) (v : V) (d : D) (zs : List D) (Q : VK), H p = some (.lst xs) → RepL K F H xs ds → NowT K F H v d → exD ds d = some zs →
    (∀ ys, RepL K F H ys zs → Q .non (upd H p (.lst ys))) → rExtend (.ref p) [v] H Q ∨ rExtT K (.ref p) [v] H Q := fun F H p xs ds v d zs Q hp r rv e k => by
  cases d <;> try (cases e)
  · obtain ⟨hz, rfl⟩ := ofIfB e
    obtain ⟨b, ys, rfl, hb, rb⟩ := rv
    exact .inl ⟨p, b, xs, ys, rfl, rfl, hp, hb, by rw [r.length, rb.length]; exact hz, k _ (r.append rb)⟩
  · obtain ⟨hz, rfl⟩ := ofIfB e
    obtain ⟨b, ys, rfl, hb, rb⟩ := rv
    exact .inr ⟨p, b, xs, ys, rfl, rfl, hp, hb, by rw [r.length, rb.length]; exact hz, k _ (r.append rb)⟩
/-- found.append(e) -/
theorem ps1_append (i : Nat) (h : ∃ t0 ds0, ρ[i]? = some (.ow t0 (.ls ds0)) ∧ PEk C e ρ m fun x ρ1 m1 => ∃ t ds d k, x = .d d ∧ ρ1[i]? = some (.ow t (.ls ds)) ∧ m1 = R.opt (apD ds d) k ∧ ∀ zs, Ψ.nx (ρ1.set i (.ow t (.ls zs))) (k zs))
    (hN : C.X.N[i]? = some y := by rfl) (hv : Vis C.X.env.scope y := by first | exact Or.inl rfl | exact Or.inr (Or.inl rfl) | exact Or.inr (Or.inr rfl)) (hd : (y == ("__debug__" : Str)) = false := by decide) (hcd : (y == ("__classdict__" : Str)) = false := by decide)
    (hbase : attributeBase (.Name y px) "append" C.X.env (eval (.Name y px) C.X.env) = eval (.Name y px) C.X.env := by rfl)
    (hfew : ((backTo cpos (starEach [e] C.X.env)).all (fun x => !x.1) && (backToKw cpos (keywordEach [] C.X.env)).all (fun x => x.1.isSome)
      && decide ([e].length + ([] : List Keyword).length + (if ([] : List Keyword).isEmpty then 0 else 1) < 30)) = true := by rfl)
    (hline : (apos.endLine == cpos.line) = true := by rfl) (he : starEach [e] C.X.env = (false, eval e C.X.env) :: starEach [] C.X.env := by rfl) (hplain : (backTo cpos (starEach [] C.X.env)).any (·.1) = false := by rfl)
    (hs : swapsWith (.Call (.Attribute (.Name y px) "append" apos) [e] [] cpos) none pos.line C.X.env = pure false := by rfl) : PS1 C (.Expr (.Call (.Attribute (.Name y px) "append" apos) [e] [] cpos) pos) ρ m Ψ := fun g D σ H F S k =>
  ⟨_, ps_expr (pe_bm PySem.F.plainAttrs_list PySem.F.slot_list_append PySem.F.type_list_append mt_append (pe_var hN hv hd hcd) (pa_cons pe_tw pa_nil he) hbase hfew hline he hplain) hs, by
    obtain ⟨t0, ds0, hρ, he⟩ := h
    obtain ⟨u0, hw, p, e1, ⟨xs0, hp0, _⟩, _⟩ := S.sl i _ hρ
    subst e1
    refine ⟨.ref p, hw, .inl ⟨rfl, xs0, SqL.of hp0⟩, he g σ H _ F S fun x ρ1 F1 H1 v hx S1 f1 r1 => ?_⟩
    obtain ⟨t, ds, d, kk, rfl, hρ1, e3, hk⟩ := hx
    obtain ⟨u1, hw1, p1, e4, ⟨xs, hp, rp⟩, _⟩ := S1.sl i _ hρ1
    subst e4
    rw [hw] at hw1
    cases hw1
    rw [e3] at g
    cases q : apD ds d with
    | none => rw [q] at g; exact g.elim
    | some zs =>
      show rAppend (.ref p) [v] H1 (fun _ H2 => D.nx σ H2)
      refine hr_append F1 H1 p xs ds v d zs _ hp rp r1 q fun ys ry => ?_
      have hOp : Ow σ ρ1 p := ⟨i, t, _, hρ1, hw⟩
      have fr : Fr0 (fun c => c = p) F1 H1 F1 (upd H1 p (.lst ys)) := ⟨fun c u e n => by rw [upd_ne n]; exact e, fun _ f => f, fun _ f => .inl f, fun c h => by
        by_cases q : c = p
        · subst q; rw [upd_same] at h; cases h
        · rw [upd_ne q] at h; exact h⟩
      have own : Own (fun c => c = p) F1 H1 := fun c q => by subst q; exact ⟨(S1.own c hOp).1, (S1.own c hOp).2⟩
      obtain ⟨S3, f3⟩ := S1.put (ob := .ls zs) (ho := .lst ys) hρ1 hw trivial ⟨_, upd_same, ry.keep own fr⟩
      exact k.nx _ _ _ σ (by rw [e3, q]; exact hk zs) S3 (f1.trans f3).fs⟩
/-- an expression whose value is dropped -/
theorem ps1_expr (h : PEk C e ρ m fun _ ρ1 m1 => Ψ.nx ρ1 m1) (hs : swapsWith e none pos.line C.X.env = pure false := by rfl) : PS1 C (.Expr e pos) ρ m Ψ := fun g D σ H F S k =>
  ⟨_, ps_expr pe_tw hs, h g σ H _ F S fun x ρ1 F1 H1 v hx S1 f1 _ => k.nx ρ1 F1 H1 σ hx S1 f1.fs⟩
theorem ps1_doc {z : Str} {j : Nat} {p2 : Pos} (h : Ψ.nx ρ m) : PS1 C (.Expr (.Constant (.str z) j p2) pos) ρ m Ψ := fun g D σ H F S k => ⟨_, ps_doc, k.nx ρ F H σ h S (.refl _ _ _ _)⟩
theorem ps1_pass (h : Ψ.nx ρ m) : PS1 C (.Pass pos) ρ m Ψ := fun g D σ H F S k => ⟨_, ps_pass, k.nx ρ F H σ h S (.refl _ _ _ _)⟩
theorem ps1_break (h : Ψ.bk ρ m) : PS1 C (.Break pos) ρ m Ψ := fun g D σ H F S k => ⟨_, ps_break, k.bk ρ F H σ h S (.refl _ _ _ _)⟩
theorem ps1_continue (h : Ψ.ct ρ m) : PS1 C (.Continue pos) ρ m Ψ := fun g D σ H F S k => ⟨_, ps_continue, k.ct ρ F H σ h S (.refl _ _ _ _)⟩
theorem ps1_stuck : PS1 C st ρ (R.stuck : R β) Ψ := fun g => g.elim
theorem ps1_ret (h : PEk C e ρ m fun x ρ1 m1 => ∃ d, x = .d d ∧ Ψ.rt (.d d) ρ1 m1) : PS1 C (.Return (some e) pos) ρ m Ψ := fun g D σ H F S k =>
  ⟨_, ps_ret pe_tw, h g σ H _ F S fun x ρ1 F1 H1 v hx S1 f1 r1 => by
    obtain ⟨d, rfl, hd⟩ := hx
    exact k.rt _ ρ1 F1 H1 σ v hd S1 f1.fs r1⟩
theorem ps1_retO (h : PEk C e ρ m fun x ρ1 m1 => ∃ ob, x = .o ob ∧ Ψ.rt (.o ob) ρ1 m1) : PS1 C (.Return (some e) pos) ρ m Ψ := fun g D σ H F S k =>
  ⟨_, ps_ret pe_tw, h g σ H _ F S fun x ρ1 F1 H1 v hx S1 f1 r1 => by
    obtain ⟨ob, rfl, hd⟩ := hx
    obtain ⟨p, e1, r, nf, g0, _⟩ := r1
    exact k.rt _ ρ1 F1 H1 σ v hd S1 f1.fs ⟨p, e1, r, nf, g0⟩⟩
theorem ps1_retN (h : Ψ.rt (.d .none) ρ m) : PS1 C (.Return none pos) ρ m Ψ := fun g D σ H F S k => ⟨_, ps_retN, k.rt _ ρ F H σ .non h S (.refl _ _ _ _) .non⟩
theorem ps1_if (h : PTk C c ρ m fun k ρ1 m1 => match k with
      | true => PSk C A ρ1 m1 Ψ
      | false => PSk C B ρ1 m1 Ψ) : PS1 C (.If c A B pos) ρ m Ψ := fun g D σ H F S k =>
  ⟨_, ps_if pt_tw pss_tw pss_tw, h g σ H _ F S fun c ρ1 F1 H1 hc S1 f1 => by
    cases c with
    | true => exact iteT (hc g D σ H1 F1 S1 (k.mono f1.fs))
    | false => exact iteF (hc g D σ H1 F1 S1 (k.mono f1.fs))⟩
theorem pek_if {Φ : Av → List Sl → R β → Prop} (h : PTk C c ρ m fun k ρ1 m1 => match k with
      | true => PEk C a ρ1 m1 Φ
      | false => PEk C b ρ1 m1 Φ) : PEk C (.IfExp c a b pos) ρ m Φ := fun g σ H Q F S k =>
  ⟨_, pe_ifExp pt_tw pe_tw pe_tw, h g σ H _ F S fun c ρ1 F1 H1 hc S1 f1 => by
    cases c with
    | true => exact iteT (hc g σ H1 Q F1 S1 fun x ρ2 F2 H2 v hx S2 f2 r2 => k x ρ2 F2 H2 v hx S2 (f1.trans f2) (r2.back f1.fr.tr))
    | false => exact iteF (hc g σ H1 Q F1 S1 fun x ρ2 F2 H2 v hx S2 f2 r2 => k x ρ2 F2 H2 v hx S2 (f1.trans f2) (r2.back f1.fr.tr))⟩

/-! ### a part of the code as a value of its own: what it hands on -/
inductive Ct (γ : Type) where
  | nx (c : γ) | bk (c : γ) | rt (r : Rt) (c : γ)
def blkPsi {γ : Type} (mk : γ → List Sl) : Psi (Ct γ) where
  nx := fun ρ' m' => ∃ c, Wk ρ' (mk c) ∧ m' = .ok (.nx c)
  rt := fun r ρ' m' => ∃ c, Wk ρ' (mk c) ∧ m' = .ok (.rt r c)
  bk := fun ρ' m' => ∃ c, Wk ρ' (mk c) ∧ m' = .ok (.bk c)
  ct := fun ρ' m' => ∃ c, Wk ρ' (mk c) ∧ m' = .ok (.nx c)
/-- a join: the branches of st hand on a c; k goes on with it -/
theorem ps1_join {γ : Type} (mk : γ → List Sl) {mj : R (Ct γ)} {k : Ct γ → R β} (hm : m = R.bind mj k)
    (h : PS1 C st ρ mj { nx := (blkPsi mk).nx, rt := (blkPsi mk).rt, bk := (blkPsi mk).bk, ct := fun _ _ => False })
    (h1 : ∀ c, Good C (k (.nx c)) → Ψ.nx (mk c) (k (.nx c))) (h2 : ∀ r c, Good C (k (.rt r c)) → Ψ.rt r (mk c) (k (.rt r c))) (h3 : ∀ c, Good C (k (.bk c)) → Ψ.bk (mk c) (k (.bk c))) : PS1 C st ρ m Ψ := fun g D σ H F S kk => by
  subst hm
  have g0 := g
  refine h g.bind D σ H F S ⟨fun ρ' F' H' σ' ⟨c, w, e⟩ S' f => ?_, fun r ρ' F' H' σ' v ⟨c, w, e⟩ S' f q => ?_, fun ρ' F' H' σ' ⟨c, w, e⟩ S' f => ?_, fun ρ' F' H' σ' z => z.elim⟩
  · exact kk.nx (mk c) F' H' σ' (by rw [e] at g0 ⊢; exact h1 c g0) (w.so S') (f.trans (w.fs σ' F' H'))
  · exact kk.rt r (mk c) F' H' σ' v (by rw [e] at g0 ⊢; exact h2 r c g0) (w.so S') (f.trans (w.fs σ' F' H')) q
  · exact kk.bk (mk c) F' H' σ' (by rw [e] at g0 ⊢; exact h3 c g0) (w.so S') (f.trans (w.fs σ' F' H'))
/-- a test as a value of its own -/
theorem ptk_join {Φ : Bool → List Sl → R β → Prop} {mj : R Bool} {k : Bool → R β} (hm : m = R.bind mj k) (h : PTk C c ρ mj fun c' ρ' m' => ρ' = ρ ∧ m' = .ok c') (h1 : Φ true ρ (k true)) (h2 : Φ false ρ (k false)) : PTk C c ρ m Φ := fun g σ H Q F S kk => by
  subst hm
  refine h g.bind σ H Q F S fun c' ρ' F' H' ⟨e1, e2⟩ S' f => kk c' ρ' F' H' ?_ S' f
  subst e1
  rw [e2]
  cases c' with
  | true => exact h1
  | false => exact h2
end
end MX

set_option Elab.async false
set_option linter.all false
set_option maxRecDepth 100000
set_option maxHeartbeats 4000000
/-! MXLoop: what is walked, for, comprehensions. -/
namespace MX
open PySem PySem.Spec PyProof.Rows L2

/-! ### what is walked -/
/-- J yields ds, as long as nothing but what O owns is changed -/
def ItOk (K : PySem.W.Frag) (J : It) (O F : Addr → Prop) (H : Hp) (ds : List D) : Prop :=
  ∀ F2 H2, Fr0 O F H F2 H2 → (∀ a, F2 a → ∃ xs, H2 a = some (.lst xs)) → ∀ i : Nat,
    (∀ d, ds[i]? = some d → J.go i H2 ∧ ∀ x H3, J.yld i H2 x H3 → Ext F2 H2 F2 H3 ∧ Rep K F2 H3 x d) ∧ (ds.length ≤ i → J.stop i H2)
theorem it_list {K : PySem.W.Frag} {O F : Addr → Prop} {H : Hp} {a : Addr} {xs : List V} {ds : List D} (ho : Own O F H) (h : (Rd H a (.lst xs) ∧ ¬ O a) ∨ SqL K (fun _ => none) a xs) (r : RepL K F H xs ds) : ItOk K (Itl K a) O F H ds := fun F2 H2 fr fz i => by
  have h2 : SqL K H2 a xs := by
    rcases h with ⟨h | ⟨o, h⟩, no⟩ | h
    · exact .inl (.inl (fr.kp _ _ h no))
    · exact .inl (.inr ⟨o, fr.kp _ _ h no⟩)
    · exact sqAny h
  have r2 := r.keep ho fr
  refine ⟨fun d e => ?_, fun hl => ⟨xs, h2, by rw [r.length]; exact hl⟩⟩
  obtain ⟨v, e1, rv⟩ := r2.getD e
  refine ⟨⟨xs, v, h2, e1⟩, fun x H3 ⟨e2, hx⟩ => ?_⟩
  subst e2
  have q := hx xs h2
  rw [e1] at q
  cases q
  exact ⟨.refl fz, rv⟩
theorem it_tup {K : PySem.W.Frag} {O F : Addr → Prop} {H : Hp} {a : Addr} {xs : List V} {ds : List D} (ho : Own O F H) (h : SqT K H a xs) (r : RepL K F H xs ds) : ItOk K (Itt K a) O F H ds := fun F2 H2 fr fz i => by
  have h2 : SqT K H2 a xs := SqT.keep ho fr h
  have r2 := r.keep ho fr
  refine ⟨fun d e => ?_, fun hl => ⟨xs, h2, by rw [r.length]; exact hl⟩⟩
  obtain ⟨v, e1, rv⟩ := r2.getD e
  refine ⟨⟨xs, v, h2, e1⟩, fun x H3 ⟨e2, hx⟩ => ?_⟩
  subst e2
  have q := hx xs h2
  rw [e1] at q
  cases q
  exact ⟨.refl fz, rv⟩
/-- a text's signs -/
def signsD (x : Str) : List D := x.cps.toList.map fun c => .str ⟨#[c]⟩
theorem it_str {K : PySem.W.Frag} {O F : Addr → Prop} {H : Hp} {x : Str} : ItOk K (Its x) O F H (signsD x) := fun F2 H2 fr fz i => by
  have hl : (signsD x).length = x.cps.size := by simp [signsD]
  refine ⟨fun d e => ?_, fun h => by rw [hl] at h; exact h⟩
  have hi : i < x.cps.size := by rw [← hl]; exact (List.getElem?_eq_some_iff.mp e).1
  refine ⟨hi, fun y H3 ⟨e2, c, hc, e3⟩ => ?_⟩
  subst e2; subst e3
  have : (signsD x)[i]? = some (.str ⟨#[c]⟩) := by
    unfold signsD
    rw [List.getElem?_map, Array.getElem?_toList, hc]
    rfl
  rw [this] at e
  cases e
  exact ⟨.refl fz, .str _⟩
/-- lo, lo + 1, .. below hi -/
def rngD (lo hi : Int) : List D := (List.range (hi - lo).toNat).map fun (i : Nat) => .int (lo + (i : Int))
theorem it_rng {K : PySem.W.Frag} {O F : Addr → Prop} {H : Hp} {lo hi : Int} : ItOk K (Itr lo (hi - lo).toNat) O F H (rngD lo hi) := fun F2 H2 fr fz i => by
  have hl : (rngD lo hi).length = (hi - lo).toNat := by simp [rngD]
  refine ⟨fun d e => ?_, fun h => by rw [hl] at h; exact h⟩
  have hi' : i < (hi - lo).toNat := by rw [← hl]; exact (List.getElem?_eq_some_iff.mp e).1
  refine ⟨hi', fun y H3 ⟨e2, e3⟩ => ?_⟩
  subst e2; subst e3
  have : (rngD lo hi)[i]? = some (.int (lo + (i : Int))) := by
    unfold rngD
    rw [List.getElem?_map, List.getElem?_range hi']
    rfl
  rw [this] at e
  cases e
  exact ⟨.refl fz, .int _⟩

section
variable {C : Cm} {β : Type} {Ψ : Psi β} {ρ : List Sl} {m : R β} {pos px : Pos} {a b e tg iter elt : Expr} {es : List Expr} {x : Str} {st : Stmt} {body : List Stmt}
def PIk (C : Cm) {β : Type} (tg iter : Expr) (ρ : List Sl) (m : R β) (Φ : List D → List Sl → R β → Prop) : Prop :=
  Good C m → ∀ (σ : St) (H : Hp) (Rr : It → Hp → Prop) (F : Addr → Prop), C.S F H σ ρ →
    (∀ ds ρ' F' H' J, Φ ds ρ' m → C.S F' H' σ ρ' → Fm σ ρ F H ρ' F' H' → ItOk C.X.K J (Ow σ ρ') F' H' ds → Rr J H') → twI C.X tg iter σ H Rr

/-- a value that is walked: list, tuple or text, as it comes -/
def iSeq (K : PySem.W.Frag) (tl : TE) : TI := fun σ H Rr => tl σ H fun x H1 =>
  (∃ a xs, x = .ref a ∧ SqL K H1 a xs ∧ Rr (Itl K a) H1) ∨ (∃ a xs, x = .ref a ∧ SqT K H1 a xs ∧ Rr (Itt K a) H1) ∨ ∃ y, x = .str y ∧ Rr (Its y) H1
theorem pi_seq {X : Cx} {l : Expr} {tl : TE} (hl : PE X l tl) : PI X tg l (iSeq X.K tl) := by
  refine ⟨fun pins s σ H Rr I h => thn (hl.run pins s σ H _ I h) fun v s1 ⟨x, H1, I1, r1, q1⟩ => ?_⟩
  rcases q1 with ⟨a, xs, rfl, hq, q⟩ | ⟨a, xs, rfl, hq, q⟩ | ⟨y, rfl, q⟩
  · cases r1
    obtain ⟨its, rv, p, hz⟩ := I1.list hq
    exact wpAny_pyIter_list p.isList (pi_one (tk := s1.toks) I1 _ (turn_list a _) ⟨_, Heap.get?_push_size _ rfl, rfl, rfl⟩ q)
  · cases r1
    obtain ⟨its, rv, p, hz⟩ := I1.tuple hq
    exact wpAny_pyIter_tuple (show s1.heap.IsTuple a its.toArray from p) (pi_one (tk := s1.toks) I1 _ (turn_tuple a _) ⟨_, Heap.get?_push_size _ rfl, rfl, rfl⟩ q)
  · obtain ⟨t, rfl⟩ := r1
    cases ha : y.cps.all (· < 128)
    · exact wpAny_pyIter_wide ha (pi_one (tk := s1.toks) I1 _ (turn_str _ y t "str_iterator" (.inr rfl)) ⟨_, Heap.get?_push_size _ rfl, rfl, rfl⟩ q)
    · exact wpAny_pyIter_ascii ha (pi_one (tk := s1.toks) I1 _ (turn_str _ y t "str_ascii_iterator" (.inl rfl)) ⟨_, Heap.get?_push_size _ rfl, rfl, rfl⟩ q)
def seqD : D → Option (List D)
  | .list ds => some ds
  | .tuple ds => some ds
  | .str x => some (signsD x)
  | _ => none
/-- a value, a fresh list, or a list that is only read -/
def viewI (ρ : List Sl) : Av → Option D
  | .d x => some x
  | .b i => match ρ[i]? with
    | some (.va (.list ds)) => some (.list ds)
    | _ => none
  | .z i => match ρ[i]? with
    | some (.fz ds) => some (.list ds)
    | _ => none
  | .o (.ls ds) => some (.list ds)
  | .f _ => none
theorem pik_seq {Φ : List D → List Sl → R β → Prop} (h : PEk C e ρ m fun x ρ1 m1 => ∃ d k, viewI ρ1 x = some d ∧ m1 = R.opt (seqD d) k ∧ ∀ ds, Φ ds ρ1 (k ds)) : PIk C tg e ρ m Φ := fun g σ H Rr F S k =>
  ⟨_, pi_seq pe_tw, h g σ H _ F S fun x ρ1 F1 H1 v hx S1 f1 r1 => by
    obtain ⟨d, kk, e1, e2, hk⟩ := hx
    have fin : ∀ ds J, seqD d = some ds → ItOk C.X.K J (Ow σ ρ1) F1 H1 ds → Rr J H1 := fun ds J q hJ => k ds ρ1 F1 H1 J (by rw [e2, q]; exact hk ds) S1 f1 hJ
    have val : Rep C.X.K F1 H1 v d → (∃ a xs, v = .ref a ∧ SqL C.X.K H1 a xs ∧ Rr (Itl C.X.K a) H1) ∨ (∃ a xs, v = .ref a ∧ SqT C.X.K H1 a xs ∧ Rr (Itt C.X.K a) H1) ∨ ∃ y, v = .str y ∧ Rr (Its y) H1 := fun r => by
      rw [e2] at g
      cases r with
      | lst hf ha ra => exact .inl ⟨_, _, rfl, SqL.of ha, fin _ _ rfl (it_list S1.own (.inl ⟨.inl ha, fun z => (S1.own _ z).1 hf⟩) ra)⟩
      | tup ha ra => exact .inr (.inl ⟨_, _, rfl, ha, fin _ _ rfl (it_tup S1.own ha ra)⟩)
      | str y => exact .inr (.inr ⟨_, rfl, fin _ _ rfl it_str⟩)
      | _ => exact g.elim
    cases x with
    | d y => cases e1; exact val r1
    | b i =>
      have r1 : σ[i]? = some (some v) := r1
      unfold viewI at e1
      dsimp only at e1
      split at e1
      · rename_i ds q
        cases e1
        obtain ⟨u, e3, w, e4, r⟩ := S1.sl i _ q
        rw [r1] at e3; cases e3; cases e4
        exact val r
      · cases e1
    | z i =>
      have r1 : σ[i]? = some (some v) := r1
      unfold viewI at e1
      dsimp only at e1
      split at e1
      · rename_i ds q
        cases e1
        obtain ⟨u, e3, a, xs, e4, f, r⟩ := S1.sl i _ q
        rw [r1] at e3; cases e3; cases e4
        refine .inl ⟨a, xs, rfl, f.sq, fin _ _ rfl ?_⟩
        refine it_list S1.own ?_ r
        rcases f with ⟨o, f⟩ | f
        · exact .inl ⟨.inr ⟨o, f⟩, fun hO => by
            have mu := (S1.own a hO).2
            rw [f] at mu
            exact mu⟩
        · exact .inr f
      · cases e1
    | f y => cases e1
    | o ob =>
      cases ob with
      | ls ds =>
        cases e1
        obtain ⟨a, rfl, ⟨xs, ha, ra⟩, nf, g0, no, hs⟩ := r1
        exact .inl ⟨a, xs, rfl, SqL.of ha, fin _ _ rfl (it_list S1.own (.inl ⟨.inl ha, no⟩) ra)⟩⟩
/-- range(b), range(a, b) -/
def rg1 : List D → Option (Int × Int)
  | [.int j] => if -(2 ^ 62) ≤ j ∧ j < 2 ^ 62 then some (0, j) else none
  | _ => none
def rg2 : List D → Option (Int × Int)
  | [.int i, .int j] => if -(2 ^ 62) ≤ i ∧ i < 2 ^ 62 ∧ -(2 ^ 62) ≤ j ∧ j < 2 ^ 62 then some (i, j) else none
  | _ => none
theorem pik_rng1 {Φ : List D → List Sl → R β → Prop} (hm : C.X.mg "range" = none) (h : PAk C [a] ρ m fun xs ρ1 m1 => ∃ ds k, allD xs = some ds ∧ m1 = R.opt (rg1 ds) k ∧ ∀ i j, Φ (rngD i j) ρ1 (k (i, j)))
    (hg : Gl C.X "range" := by rfl) (hs : starEach [a] C.X.env = [(false, eval a C.X.env)] := by rfl) : PIk C tg (.Call (.Name "range" px) [a] [] pos) ρ m Φ := fun g σ H Rr F S k =>
  ⟨_, pi_range1 hg hm pa_tw hs, h g σ H _ F S fun xs ρ1 F1 H1 vs hx S1 f1 r1 => by
    obtain ⟨ds, kk, e1, e2, hk⟩ := hx
    have r := allD_rep r1 e1
    rw [e2] at g
    cases q : rg1 ds with
    | none => rw [q] at g; exact g.elim
    | some ij =>
      obtain ⟨i, j⟩ := ij
      have q0 := q
      unfold rg1 at q
      split at q
      · obtain ⟨⟨h1, h2⟩, e3⟩ := ofIfB q
        cases e3
        cases r with
        | cons ra rb =>
          cases ra; cases rb
          refine ⟨j, rfl, h1, h2, ?_⟩
          have z := k _ ρ1 F1 H1 (Itr 0 (j - 0).toNat) (by rw [e2, q0]; exact hk 0 j) S1 f1 it_rng
          rw [Int.sub_zero] at z
          exact z
      · cases q⟩
theorem pik_rng2 {Φ : List D → List Sl → R β → Prop} (hm : C.X.mg "range" = none) (h : PAk C [a, b] ρ m fun xs ρ1 m1 => ∃ ds k, allD xs = some ds ∧ m1 = R.opt (rg2 ds) k ∧ ∀ i j, Φ (rngD i j) ρ1 (k (i, j)))
    (hg : Gl C.X "range" := by rfl) (hs : starEach [a, b] C.X.env = [(false, eval a C.X.env), (false, eval b C.X.env)] := by rfl) (hs2 : starEach [b] C.X.env = [(false, eval b C.X.env)] := by rfl) : PIk C tg (.Call (.Name "range" px) [a, b] [] pos) ρ m Φ := fun g σ H Rr F S k =>
  ⟨_, pi_range2 hg hm pa_tw hs hs2, h g σ H _ F S fun xs ρ1 F1 H1 vs hx S1 f1 r1 => by
    obtain ⟨ds, kk, e1, e2, hk⟩ := hx
    have r := allD_rep r1 e1
    rw [e2] at g
    cases q : rg2 ds with
    | none => rw [q] at g; exact g.elim
    | some ij =>
      obtain ⟨i, j⟩ := ij
      have q0 := q
      unfold rg2 at q
      split at q
      · obtain ⟨h1, e3⟩ := ofIfB q
        cases e3
        cases r with
        | cons ra rb =>
          cases rb with
          | cons rb rc =>
            cases ra; cases rb; cases rc
            exact ⟨i, j, rfl, h1, k _ ρ1 F1 H1 (Itr i (j - i).toNat) (by rw [e2, q0]; exact hk i j) S1 f1 it_rng⟩
      · cases q⟩

/-! ### for -/
def forL {γ : Type} (B : D → γ → R (Ct γ)) : List D → γ → R (Ct γ)
  | [], c => .ok (.nx c)
  | y :: ys, c => R.bind (B y c) fun r => match r with
    | .nx c' => forL B ys c'
    | .bk c' => .ok (.nx c')
    | .rt r c' => .ok (.rt r c')
theorem ps1_for {γ : Type} (T : List Nat) (mk : γ → List Sl) (B : D → γ → R (Ct γ))
    (h : PIk C tg iter ρ m fun ds ρ1 m1 => ∃ c0 k, Wk ρ1 (mk c0) ∧ m1 = R.bind (forL B ds c0) k ∧ (∀ c, Good C (k (.nx c)) → Ψ.nx (mk c) (k (.nx c))) ∧ ∀ r c, Good C (k (.rt r c)) → Ψ.rt r (mk c) (k (.rt r c)))
    (hb : ∀ y c, PGk C T tg y (mk c) (B y c) fun ρ2 m2 => PSk C body ρ2 m2 (blkPsi mk)) (hp : PassesOwn (model C.X.prog C.X.w) C.X.A C.X.env C.X.xe) (hc : C.X.calm = true)
    (hs : ∀ x, foldedSetIterable iter C.X.env x = pure x := by intro _; rfl) : PS1 C (.For tg iter body [] pos) ρ m Ψ := fun g D σ H F S k =>
  ⟨_, ps_for hp hc pi_tw pg_tw pss_tw hs, h g σ H _ F S fun ds ρ1 F1 H1 J hx S1 f1 hJ => by
    obtain ⟨c0, kk, w0, e0, h1, h2⟩ := hx
    have k := k.mono f1.fs
    refine ⟨fun i n σ' H' => n = ds.length - i ∧ i ≤ ds.length ∧ ∃ c F', C.S F' H' σ' (mk c) ∧ Fs σ ρ1 F1 H1 σ' (mk c) F' H' ∧ m = R.bind (forL B (ds.drop i) c) kk, ⟨_, rfl, Nat.zero_le _, c0, F1, w0.so S1, w0.fs σ F1 H1, e0⟩, ?_⟩
    rintro i n σ' H' ⟨rfl, hi, c, F', S', fs, e⟩
    have it := hJ F' H' fs.fr S'.b.fz i
    by_cases hlt : i < ds.length
    · have hd : ds.drop i = ds[i] :: ds.drop (i + 1) := List.drop_eq_getElem_cons hlt
      obtain ⟨go, yl⟩ := it.1 ds[i] (List.getElem?_eq_getElem hlt)
      rw [hd] at e
      have g1 : Good C (B ds[i] c) := by
        rw [e] at g
        exact g.bind.bind
      refine .inr ⟨go, fun σ2 H2 => ∃ c' F2, C.S F2 H2 σ2 (mk c') ∧ Fs σ ρ1 F1 H1 σ2 (mk c') F2 H2 ∧ m = R.bind (forL B (ds.drop (i + 1)) c') kk, ?_, fun x H3 hy => ?_⟩
      · rintro σ2 H2 ⟨c', F2, S2, fs2, e2⟩
        exact ⟨ds.length - (i + 1), by omega, rfl, hlt, c', F2, S2, fs2, e2⟩
      · obtain ⟨x3, r3⟩ := yl x H3 hy
        refine hb ds[i] c g1 σ' H3 x _ F' (S'.ext x3) r3 fun ρ2 σ2 hρ2 S2 fs2 _ => ?_
        have fs3 : Fs σ ρ1 F1 H1 σ2 ρ2 F' H3 := (fs.trans x3.fm.fs).trans fs2
        refine hρ2 g1 _ σ2 H3 F' S2 ⟨?_, ?_, ?_, ?_⟩
        · rintro ρ3 F3 H4 σ3 ⟨c', w, eB⟩ S3 fs4
          exact ⟨c', F3, w.so S3, (fs3.trans fs4).trans (w.fs _ _ _), by rw [e]; show R.bind (R.bind (B ds[i] c) _) kk = _; rw [eB]; rfl⟩
        · rintro r ρ3 F3 H4 σ3 v ⟨c', w, eB⟩ S3 fs4 rr
          exact k.rt r (mk c') F3 H4 σ3 v (by
            have e5 : m = kk (.rt r c') := by rw [e]; show R.bind (R.bind (B ds[i] c) _) kk = _; rw [eB]; rfl
            rw [e5] at g ⊢; exact h2 r c' g) (w.so S3) ((fs3.trans fs4).trans (w.fs _ _ _)) rr
        · rintro ρ3 F3 H4 σ3 ⟨c', w, eB⟩ S3 fs4
          exact k.nx (mk c') F3 H4 σ3 (by
            have e5 : m = kk (.nx c') := by rw [e]; show R.bind (R.bind (B ds[i] c) _) kk = _; rw [eB]; rfl
            rw [e5] at g ⊢; exact h1 c' g) (w.so S3) ((fs3.trans fs4).trans (w.fs _ _ _))
        · rintro ρ3 F3 H4 σ3 ⟨c', w, eB⟩ S3 fs4
          exact ⟨c', F3, w.so S3, (fs3.trans fs4).trans (w.fs _ _ _), by rw [e]; show R.bind (R.bind (B ds[i] c) _) kk = _; rw [eB]; rfl⟩
    · have hd : ds.drop i = [] := List.drop_eq_nil_of_le (by omega)
      rw [hd] at e
      exact .inl ⟨it.2 (by omega), k.nx (mk c) F' H' σ' (by
        have e5 : m = kk (.nx c) := by rw [e]; rfl
        rw [e5] at g ⊢; exact h1 c g) S' fs⟩⟩
end
end MX

set_option Elab.async false
set_option linter.all false
set_option maxRecDepth 100000
set_option maxHeartbeats 4000000
/-! MXComp: list comprehensions. -/
namespace MX
open PySem PySem.Spec PyProof.Rows L2

theorem wipe_get (σ : St) : ∀ (vs : List Nat) (j : Nat), (wipe σ vs)[j]? = if j ∈ vs then σ[j]?.map fun _ => none else σ[j]?
  | [], j => by simp [wipe]
  | v :: vs, j => by
    have ih := wipe_get σ vs j
    unfold wipe
    by_cases q : v = j
    · subst q
      rw [if_pos List.mem_cons_self]
      by_cases hv : v < σ.length
      · rw [List.getElem?_set_self (by rw [wipe_length]; exact hv), List.getElem?_eq_getElem hv]
        rfl
      · rw [List.getElem?_eq_none (by rw [List.length_set, wipe_length]; omega), List.getElem?_eq_none (by omega)]
        rfl
    · rw [List.getElem?_set_ne q, ih]
      by_cases hj : j ∈ vs
      · rw [if_pos hj, if_pos (List.mem_cons_of_mem _ hj)]
      · rw [if_neg hj, if_neg (fun z => (List.mem_cons.mp z).elim (fun e => q e.symm) hj)]
theorem wipe_same {σ σ' : St} {vs : List Nat} (hl : σ'.length = σ.length) (h : ∀ j, j ∉ vs → σ'[j]? = σ[j]?) : wipe σ' vs = wipe σ vs := by
  refine List.ext_getElem? fun j => ?_
  rw [wipe_get, wipe_get]
  by_cases hj : j ∈ vs
  · rw [if_pos hj, if_pos hj]
    by_cases q : j < σ.length
    · rw [List.getElem?_eq_getElem q, List.getElem?_eq_getElem (by omega)]
      rfl
    · rw [List.getElem?_eq_none (by omega), List.getElem?_eq_none (by omega)]
  · rw [if_neg hj, if_neg hj, h j hj]
section
variable {K : PySem.W.Frag} {mg : Str → Option Value} {G : Gh} {F : Addr → Prop} {H : Hp} {σ σ' : St} {ρ : List Sl}
/-- the slots that ρ speaks of are alike -/
def Like (σ σ' : St) (ρ : List Sl) : Prop := σ'.length = σ.length ∧ ∀ (j : Nat) (s : Sl), ρ[j]? = some s → s ≠ .no → σ'[j]? = σ[j]?
theorem Like.symm (h : Like σ σ' ρ) : Like σ' σ ρ := ⟨h.1.symm, fun j s e n => (h.2 j s e n).symm⟩
theorem Like.ow (h : Like σ σ' ρ) {a : Addr} : Ow σ' ρ a → Ow σ ρ a := fun ⟨i, t, o, e1, e2⟩ => ⟨i, t, o, e1, by rw [← h.2 i _ e1 (by simp)]; exact e2⟩
theorem Like.so (h : Like σ σ' ρ) (S : SO K mg G F H σ ρ) : SO K mg G F H σ' ρ where
  b := S.b
  len := h.1.trans S.len
  sl := fun i s e => by
    obtain ⟨u, e1, k⟩ := S.sl i s e
    by_cases hs : s = .no
    · subst hs
      have hi : i < σ'.length := by rw [h.1, S.len]; exact (List.getElem?_eq_some_iff.mp e).1
      exact ⟨_, List.getElem?_eq_getElem hi, trivial⟩
    · exact ⟨u, by rw [h.2 i s e hs]; exact e1, k⟩
  dj := fun i j ti oi tj oj a h1 h2 h3 h4 => by
    rw [h.2 i _ h1 (by simp)] at h3
    rw [h.2 j _ h2 (by simp)] at h4
    exact S.dj i j _ _ _ _ a h1 h2 h3 h4
theorem like_wipe {vs : List Nat} (hno : ∀ j ∈ vs, ρ[j]? = some .no) : Like σ (wipe σ vs) ρ := ⟨wipe_length σ vs, fun j s e n => by
  rw [wipe_get, if_neg fun hj => ?_]
  rw [hno j hj] at e
  cases e
  exact n rfl⟩
end
/-- an object that no slot owns is changed -/
theorem SO.other {K : PySem.W.Frag} {mg : Str → Option Value} {G : Gh} {F : Addr → Prop} {H : Hp} {σ : St} {ρ : List Sl} {p : Addr} {ho : HO} (S : SO K mg G F H σ ρ) (nf : ¬ F p) (no : ¬ Ow σ ρ p) (g0 : G.H0 p = none) (mu : Mut (H p)) :
    Fr0 (fun c => c = p) F H F (upd H p ho) ∧ Own (fun c => c = p) F H ∧ SO K mg G F (upd H p ho) σ ρ := by
  have fr : Fr0 (fun c => c = p) F H F (upd H p ho) := ⟨fun c u e n => by rw [upd_ne n]; exact e, fun _ f => f, fun _ f => .inl f, fun c h => by
    by_cases q : c = p
    · subst q; rw [upd_same] at h; cases h
    · rw [upd_ne q] at h; exact h⟩
  have own : Own (fun c => c = p) F H := fun c q => by subst q; exact ⟨nf, mu⟩
  refine ⟨fr, own, ⟨fun c f => ?_, S.b.wf, fun j c e => ?_, fun c u e n => ?_, S.b.f0, S.b.fn, S.b.w0, S.b.wi⟩, S.len, fun j s h => ?_, S.dj⟩
  · obtain ⟨xs, e⟩ := S.b.fz c f
    have hne : c ≠ p := fun q => nf (by rw [← q]; exact f)
    exact ⟨xs, by rw [upd_ne hne]; exact e⟩
  · have hne : c ≠ p := fun q => S.b.w0 j c e (by rw [q]; exact g0)
    rw [upd_ne hne]
    exact S.b.wl j c e
  · have hne : c ≠ p := fun q => by rw [q, g0] at e; cases e
    rw [upd_ne hne]
    exact S.b.kp c u e n
  · obtain ⟨u, e, k⟩ := S.sl j s h
    refine ⟨u, e, ?_⟩
    cases s with
    | no => trivial
    | va d => exact k.keep own fr (by simp)
    | fz d => exact k.keep own fr (by simp)
    | fn d => exact k
    | ow t o =>
      obtain ⟨c, ec, rc, nc, kc⟩ := k
      subst ec
      exact ⟨c, rfl, rc.keep own fr (fun z => by
        subst z
        exact no ⟨j, t, o, h, e⟩), nc, kc⟩
abbrev Cm.blk (C : Cm) (s : Shared) (H : Hp) (scope : Scope) (Ca : Addr) (cl : List (Str × Addr)) (fp : List Addr) : Cm := ⟨C.X.blk s H scope (compEnvC scope cl Ca C.X.env) fp, C.G, fun _ _ _ => False⟩
/-- an exception is not told of -/
def noX {α : Type} : R α → R α
  | .ok a => .ok a
  | _ => .stuck
def lcL {γ : Type} (B : D → γ → R (D × γ)) : List D → γ → List D → R (List D × γ)
  | [], c, acc => .ok (acc, c)
  | y :: ys, c, acc => R.bind (noX (B y c)) fun r => if acc.length < sizeLine then lcL B ys r.2 (acc ++ [r.1]) else .stuck
section
variable {C : Cm} {β : Type} {ρ : List Sl} {m : R β} {pos : Pos} {tg iter elt : Expr} {scope : Scope} {Φ : Av → List Sl → R β → Prop}
/-- how a comprehension goes: w its walk -/
theorem lc_use {γ : Type} {own : List (Str × Nat)} {mk : γ → List Sl} {B : D → γ → R (D × γ)} {g : TG} {te : TE}
    (hno : ∀ c, ∀ j ∈ own.map (·.2), (mk c)[j]? = some .no)
    (hg : ∀ v σ H Q, g v σ H Q ↔ ∀ s H' Ca cl fp, twG (C.X.blk s H' scope (compEnvC scope cl Ca C.X.env) fp) tg v σ H Q) (he : ∀ σ H Q, te σ H Q ↔ ∀ s H' Ca cl fp, tw (C.X.blk s H' scope (compEnvC scope cl Ca C.X.env) fp) elt σ H Q)
    (hb : ∀ s H' Ca cl fp y c, PGk (C.blk s H' scope Ca cl fp) (own.map (·.2)) tg y (mk c) (B y c) fun ρ2 m2 => ∀ s2 H2 Ca2 cl2 fp2, PEk (C.blk s2 H2 scope Ca2 cl2 fp2) elt ρ2 m2 fun x ρ3 m3 => ∃ d c', x = .d d ∧ Wk ρ3 (mk c') ∧ m3 = .ok (d, c'))
    {σ : St} {F1 : Addr → Prop} {H1 : Hp} {ρ1 : List Sl} {J : It} {ds : List D} {c0 : γ} {k : List D × γ → R β} {Q : VK} (gd : Good C m) (S1 : C.S F1 H1 σ ρ1) (w0 : Wk ρ1 (mk c0)) (e0 : m = R.bind (lcL B ds c0 []) k)
    (hJ : ItOk C.X.K J (Ow σ ρ1) F1 H1 ds)
    (hk : ∀ ys c F2 H2 p, m = k (ys, c) → C.S F2 H2 σ (mk c) → Fm σ ρ1 F1 H1 (mk c) F2 H2 → RepA C.X.K C.X.mg C.G H1 F2 H2 σ (mk c) (.ref p) (.o (.ls ys)) → Q (.ref p) H2) :
    ∀ p, H1 p = none → ∃ W : Nat → Nat → Hp → Prop, (∃ n, W 0 n (upd H1 p (.lst []))) ∧ ∀ i n H, W i n H →
      (J.stop i H ∧ Q (.ref p) H) ∨ (J.go i H ∧ ∃ Nx : Hp → Prop, (∀ H', Nx H' → ∃ n', n' < n ∧ W (i + 1) n' H') ∧ ∀ x H', J.yld i H x H' → g x (wipe σ (own.map (·.2))) H' fun σ2 H2 => wipe σ2 (own.map (·.2)) = wipe σ (own.map (·.2)) ∧ tYes σ2 H2 fun b H3 =>
        if b = true then te σ2 H3 fun y H4 => ∃ acc, H4 p = some (.lst acc) ∧ acc.length < sizeLine ∧ Nx (upd H4 p (.lst (acc ++ [y]))) else Nx H3) := by
  intro p hp
  have g0 : C.G.H0 p = none := fresh_H0 S1.b hp
  refine ⟨fun i n H => n = ds.length - i ∧ i ≤ ds.length ∧ ∃ c ys xs F, C.S F H σ (mk c) ∧ Fm σ ρ1 F1 H1 (mk c) F H ∧ H p = some (.lst xs) ∧ RepL C.X.K F H xs ys ∧ ¬ F p ∧ ¬ Ow σ (mk c) p ∧ m = R.bind (lcL B (ds.drop i) c ys) k, ?_, ?_⟩
  · obtain ⟨x1, p', e, ⟨xs, e2, r⟩, nf, _, no, _⟩ := new_list (ds := []) S1 hp .nil
    cases e
    have S2 := w0.so (S1.ext x1)
    exact ⟨_, rfl, Nat.zero_le _, c0, [], [], F1, S2, (x1.fm (σ := σ) (ρ := ρ1)).trans ⟨.refl _ _ _, fun a z => .inl (w0.ow z)⟩, upd_same, .nil, nf, fun z => no (w0.ow z), e0⟩
  rintro i n H ⟨rfl, hi, c, ys, xs, F, S, fm, hpl, rl, nf, no, e⟩
  have it := hJ F H fm.fr S.b.fz i
  by_cases hlt : i < ds.length
  · have hd : ds.drop i = ds[i] :: ds.drop (i + 1) := List.drop_eq_getElem_cons hlt
    obtain ⟨go, yl⟩ := it.1 ds[i] (List.getElem?_eq_getElem hlt)
    rw [hd] at e
    obtain ⟨d0, c', eB⟩ : ∃ d0 c', B ds[i] c = .ok (d0, c') := by
      cases q : B ds[i] c with
      | ok r => exact ⟨r.1, r.2, rfl⟩
      | exc x =>
        have z : m = .stuck := by
          rw [e]
          show R.bind (R.bind (noX (B ds[i] c)) _) k = _
          rw [q]
          rfl
        rw [z] at gd; exact gd.elim
      | stuck =>
        have z : m = .stuck := by
          rw [e]
          show R.bind (R.bind (noX (B ds[i] c)) _) k = _
          rw [q]
          rfl
        rw [z] at gd; exact gd.elim
    have e1 : m = R.bind (if ys.length < sizeLine then lcL B (ds.drop (i + 1)) c' (ys ++ [d0]) else .stuck) k := by
      rw [e]
      show R.bind (R.bind (noX (B ds[i] c)) _) k = _
      rw [eB]
      rfl
    have hz : ys.length < sizeLine := by
      by_cases q : ys.length < sizeLine
      · exact q
      · rw [if_neg q] at e1
        rw [e1] at gd; exact gd.elim
    rw [if_pos hz] at e1
    refine .inr ⟨go, fun H' => ∃ c ys xs F, C.S F H' σ (mk c) ∧ Fm σ ρ1 F1 H1 (mk c) F H' ∧ H' p = some (.lst xs) ∧ RepL C.X.K F H' xs ys ∧ ¬ F p ∧ ¬ Ow σ (mk c) p ∧ m = R.bind (lcL B (ds.drop (i + 1)) c ys) k, ?_, fun x H3 hy => ?_⟩
    · exact fun H' h => ⟨ds.length - (i + 1), by omega, rfl, hlt, h⟩
    · obtain ⟨x3, r3⟩ := yl x H3 hy
      have lk : Like σ (wipe σ (own.map (·.2))) (mk c) := like_wipe (hno c)
      have S3 := S.ext x3
      refine (hg _ _ _ _).mpr fun s H' Ca cl fp => hb s H' Ca cl fp ds[i] c (by rw [eB]; trivial) _ H3 x _ F (lk.so S3) r3 fun ρ2 σ2 hρ2 S4 fs4 hT => ⟨?_, ?_⟩
      · exact (wipe_same (σ := wipe σ (own.map (·.2))) hT.1 hT.2).trans (wipe_same (wipe_length σ _) fun j hj => by rw [wipe_get, if_neg hj])
      · dsimp only [tYes]
        rw [if_pos rfl]
        refine (he _ _ _).mpr fun s2 H2' Ca2 cl2 fp2 => hρ2 s2 H2' Ca2 cl2 fp2 (by rw [eB]; trivial) σ2 H3 _ F S4 fun z ρ3 F4 H4 v hz' S5 f5 r5 => ?_
        obtain ⟨d, c2, rfl, w, e2⟩ := hz'
        rw [eB] at e2
        cases e2
        have back : ∀ a, Ow σ2 ρ2 a → Ow σ ρ1 a ∨ H1 a = none := fun a z => by
          rcases fs4.ow a z with q | q
          · exact fm.ow a (lk.ow q)
          · exact .inr (fm.fr.tr a (x3.fr (O := fun _ => False) |>.tr a q))
        have no2 : ¬ Ow σ2 ρ2 p := fun z => by
          rcases fs4.ow p z with q | q
          · exact no (lk.ow q)
          · rw [x3.kp p _ hpl] at q; cases q
        have hp4 : H4 p = some (.lst xs) := f5.fr.kp p _ (x3.kp p _ hpl) no2
        have nf4 : ¬ F4 p := fun f => by
          rcases f5.fr.f2 p f with q | q | q
          · exact nf q
          · rw [x3.kp p _ hpl] at q; cases q
          · exact no2 q
        have lk2 : Like σ2 σ (mk c') := ⟨(by rw [hT.1, wipe_length]), fun j s' h n => by
          have hj : j ∉ own.map (·.2) := fun hj => n (by
            have q := hno c' j hj
            rw [h] at q
            exact Option.some.inj q)
          rw [hT.2 j hj, wipe_get, if_neg hj]⟩
        have S6 : C.S F4 H4 σ (mk c') := lk2.so (w.so S5)
        have no6 : ¬ Ow σ (mk c') p := fun z => by
          rcases f5.ow p (w.ow (lk2.ow z)) with q | q
          · exact no2 q
          · rw [x3.kp p _ hpl] at q; cases q
        obtain ⟨fr, ownp, S7⟩ := S6.other (ho := .lst (xs ++ [v])) nf4 no6 g0 (by rw [hp4]; trivial)
        have fr4 : Fr0 (Ow σ ρ1) F1 H1 F4 H4 := (fm.fr.trans (x3.fr (O := Ow σ ρ1)) fun a z => .inl z).trans f5.fr back
        have r5 : Rep C.X.K F4 H4 v d0 := r5
        refine ⟨xs, hp4, by rw [rl.length]; exact hz, c', ys ++ [d0], xs ++ [v], F4, S7, ⟨fr4.trans fr fun a q => .inr (by rw [q]; exact hp), fun a z => ?_⟩, upd_same, ?_, nf4, no6, e1⟩
        · rcases f5.ow a (w.ow (lk2.ow z)) with q | q
          · exact back a q
          · exact .inr (fm.fr.tr a (x3.fr (O := fun _ => False) |>.tr a q))
        · have own2 : Own (Ow σ2 ρ2) F H3 := S4.own
          have rl4 : RepL C.X.K F4 H4 xs ys := (rl.keep own_none x3.fr).keep own2 f5.fr
          exact (rl4.append (.cons r5 .nil)).keep ownp fr
  · have hd : ds.drop i = [] := List.drop_eq_nil_of_le (by omega)
    rw [hd] at e
    refine .inl ⟨it.2 (by omega), hk ys c F H p e S fm ⟨p, rfl, ⟨xs, hpl, rl⟩, nf, g0, no, hp⟩⟩
theorem pek_lc {γ : Type} (own : List (Str × Nat)) (mk : γ → List Sl) (B : D → γ → R (D × γ))
    (h : PIk C tg iter ρ m fun ds ρ1 m1 => ∃ c0 k, Wk ρ1 (mk c0) ∧ m1 = R.bind (lcL B ds c0 []) k ∧ ∀ ys c, Φ (.o (.ls ys)) (mk c) (k (ys, c)))
    (hb : ∀ s H' Ca cl fp y c, PGk (C.blk s H' scope Ca cl fp) (own.map (·.2)) tg y (mk c) (B y c) fun ρ2 m2 => ∀ s2 H2 Ca2 cl2 fp2, PEk (C.blk s2 H2 scope Ca2 cl2 fp2) elt ρ2 m2 fun x ρ3 m3 => ∃ d c', x = .d d ∧ Wk ρ3 (mk c') ∧ m3 = .ok (d, c'))
    (hno : ∀ c, ∀ j ∈ own.map (·.2), (mk c)[j]? = some .no) (hN : C.X.N.Nodup) (hc : C.X.calm = true) (ok : BlkOk C.X.N C.X.env.scope scope own) (hs : ∀ x, foldedSetIterable iter C.X.env x = pure x := by intro _; rfl) :
    PEk C (.ListComp elt [⟨tg, iter, [], 0⟩] scope pos) ρ m Φ := fun g σ H Q F S k =>
  ⟨_, pe_lc (g := fun v σ H Q => ∀ s H' Ca cl fp, twG (C.X.blk s H' scope (compEnvC scope cl Ca C.X.env) fp) tg v σ H Q) (tt := tYes) (te := fun σ H Q => ∀ s H' Ca cl fp, tw (C.X.blk s H' scope (compEnvC scope cl Ca C.X.env) fp) elt σ H Q) (own := own) hc hN pi_tw ok
    (fun s H' Ca cl fp => ⟨fun pins s1 σ1 H1 v u Q1 I r h => pg_tw.run pins s1 σ1 H1 v u Q1 I r (h s H' Ca cl fp)⟩) (fun _ _ _ _ _ => pts_nil) (fun s H' Ca cl fp => ⟨fun pins s1 σ1 H1 Q1 I h => pe_tw.run pins s1 σ1 H1 Q1 I (h s H' Ca cl fp)⟩) hs,
    h g σ H _ F S fun ds ρ1 F1 H1 J hx S1 f1 hJ => by
      obtain ⟨c0, kk, w0, e0, hΦ⟩ := hx
      exact lc_use hno (fun _ _ _ _ => .rfl) (fun _ _ _ => .rfl) hb g S1 w0 e0 hJ fun ys c F2 H2 p e S2 f2 r2 => k _ (mk c) F2 H2 _ (by rw [e]; exact hΦ ys c) S2 (f1.trans f2) (r2.back f1.fr.tr)⟩
/-- y = [..], the target in the comprehension's own frame; frozen at once or owned -/
theorem ps1_setLc {Ψ : Psi β} {γ : Type} (i : Nat) (own : List (Str × Nat)) (mk : γ → List Sl) (B : D → γ → R (D × γ)) {y : Str} {py spos : Pos}
    (h : PIk C tg iter ρ m fun ds ρ1 m1 => ∃ c0 k, Wk ρ1 (mk c0) ∧ m1 = R.bind (lcL B ds c0 []) k ∧ ∀ ys c, Ψ.nx ((mk c).set i (.ow none (.ls ys))) (k (ys, c)))
    (hb : ∀ s H' Ca cl fp y c, PGk (C.blk s H' scope Ca cl fp) (own.map (·.2)) tg y (mk c) (B y c) fun ρ2 m2 => ∀ s2 H2 Ca2 cl2 fp2, PEk (C.blk s2 H2 scope Ca2 cl2 fp2) elt ρ2 m2 fun x ρ3 m3 => ∃ d c', x = .d d ∧ Wk ρ3 (mk c') ∧ m3 = .ok (d, c'))
    (hno : ∀ c, ∀ j ∈ own.map (·.2), (mk c)[j]? = some .no) (hN : C.X.N.Nodup) (hc : C.X.calm = true) (ok : BlkOk C.X.N C.X.env.scope scope own)
    (hsw : swapsWith (.ListComp elt [⟨tg, iter, [], 0⟩] scope pos) (some (.Name y py)) spos.line C.X.env = pure true) (hi : C.X.N[i]? = some y := by rfl) (hyl : C.X.env.scope.names.lookup y = some .local := by rfl)
    (hs : ∀ x, foldedSetIterable iter C.X.env x = pure x := by intro _; rfl) :
    PS1 C (.Assign [.Name y py] (.ListComp elt [⟨tg, iter, [], 0⟩] scope pos) spos) ρ m Ψ := fun g D σ H F S k =>
  ⟨_, ps_setLc (i := i) (g := fun v σ H Q => ∀ s H' Ca cl fp, twG (C.X.blk s H' scope (compEnvC scope cl Ca C.X.env) fp) tg v σ H Q) (tt := tYes) (te := fun σ H Q => ∀ s H' Ca cl fp, tw (C.X.blk s H' scope (compEnvC scope cl Ca C.X.env) fp) elt σ H Q) (own := own) hc hN hi hyl hsw pi_tw ok
    (fun s H' Ca cl fp => ⟨fun pins s1 σ1 H1 v u Q1 I r h => pg_tw.run pins s1 σ1 H1 v u Q1 I r (h s H' Ca cl fp)⟩) (fun _ _ _ _ _ => pts_nil) (fun s H' Ca cl fp => ⟨fun pins s1 σ1 H1 Q1 I h => pe_tw.run pins s1 σ1 H1 Q1 I (h s H' Ca cl fp)⟩) hs,
    h g σ H _ F S fun ds ρ1 F1 H1 J hx S1 f1 hJ => by
      obtain ⟨c0, kk, w0, e0, hΦ⟩ := hx
      refine lc_use (Q := fun x H1 => gName i x σ H1 D.nx) hno (fun _ _ _ _ => .rfl) (fun _ _ _ => .rfl) hb g S1 w0 e0 hJ fun ys c F2 H2 p e S2 f2 r2 => ?_
      obtain ⟨p', e', r, nf, g0, no, hs0⟩ := r2
      cases e'
      have fm := f1.trans f2
      refine k.nx _ F2 H2 _ (by rw [e]; exact hΦ ys c) (S2.setO (i := i) r nf g0 no) ⟨fm.fr, fun a z => ?_⟩
      rcases ow_set z with ⟨q, _⟩ | q
      · cases q
        exact .inr (f1.fr.tr _ hs0)
      · exact fm.ow a q⟩
end
end MX

set_option Elab.async false
set_option linter.all false
set_option maxRecDepth 100000
set_option maxHeartbeats 4000000
/-! MXFun: defs, what they promise, calls of them. -/
namespace MX
open PySem PySem.Spec PyProof.Rows L2

/-! ### what a def is given, what it gives back -/
def AgOk (K : PySem.W.Frag) (mg : Str → Option Value) (F : Addr → Prop) (H : Hp) (W : Nat → Option Addr) (i : Nat) (v : V) : Ag → Prop
  | .d x => Rep K F H v x ∧ W i = none
  | .w o => ∃ a, v = .ref a ∧ W i = some a ∧ RepO K F H a o
  | .f x => (∃ a, v = .ref a ∧ mg x = some (.ref a)) ∧ W i = none
  | .z ds => (∃ a xs, v = .ref a ∧ Fz K H a xs ∧ RepL K F H xs ds) ∧ W i = none
def AgsOk (K : PySem.W.Frag) (mg : Str → Option Value) (F : Addr → Prop) (H : Hp) (W : Nat → Option Addr) : Nat → List V → List Ag → Prop
  | _, [], [] => True
  | i, v :: vs, g :: gs => AgOk K mg F H W i v g ∧ AgsOk K mg F H W (i + 1) vs gs
  | _, _, _ => False
structure Entry (K : PySem.W.Frag) (mg : Str → Option Value) (F : Addr → Prop) (H : Hp) (W : Nat → Option Addr) (vs : List V) (gs : List Ag) : Prop where
  ags : AgsOk K mg F H W 0 vs gs
  fz : ∀ a, F a → ∃ xs, H a = some (.lst xs)
  wf : ∀ j a, W j = some a → ¬ F a
  wi : ∀ i j a, W i = some a → W j = some a → i = j
  wb : ∀ j a, W j = some a → j < vs.length
def Post (K : PySem.W.Frag) (G : Gh) (F : Addr → Prop) (H : Hp) (v : V) (r : Rt) (os : List (Nat × Ob)) : Prop :=
  SB G F H ∧ RepR K G F H v r ∧ (∀ j o, (j, o) ∈ os → ∃ a, G.W j = some a ∧ RepO K F H a o)
def spM {α β : Type} (K : PySem.W.Frag) (mg : Str → Option Value) (ea : α → List Ag) (er : β → Rt × List (Nat × Ob)) (m : α → R β) : Sp := fun vs H Q E => ∃ F W a, Entry K mg F H W vs (ea a) ∧
  match m a with
  | .ok b => ∀ F' H' v, Post K ⟨H, W, F⟩ F' H' v (er b).1 (er b).2 → Q v H'
  | .exc x => ∀ F' H' c d, SB ⟨H, W, F⟩ F' H' → RepX K mg F' H' x c d → E c d H'
  | .stuck => False
structure FnM {α β : Type} (P : Program) (w : World) (K : PySem.W.Frag) (mg : Str → Option Value) (base : Heap) (k : Nat) (f : Addr) (fd : FuncData) (ps : List Str) (ea : α → List Ag) (er : β → Rt × List (Nat × Ob)) (m : α → R β) : Prop where
  len : ∀ a, (ea a).length = ps.length
  cov : ∀ a b j o, (ea a)[j]? = some (.w o) → ∃ o', (j, o') ∈ (er b).2
  run : ∀ (A : Around) (outer : List Env) (s : Shared) (H : Hp) (args : Args) (us : List Value) (vs : List V) (Q : VK) (E : XK), Room k A → A.guards = some [] → Env0 P w K mg base A outer s H → BindsTo s fd args (ps.zip us) → Vals vs us → spM K mg ea er m vs H Q E →
    codeAny (model P w) A (.call (.ref f) args) (CR (L2.CX P w) outer P w H s Q E) s
theorem FnM.mono {α β : Type} {P : Program} {w : World} {K : PySem.W.Frag} {mg : Str → Option Value} {base : Heap} {j k : Nat} {f : Addr} {fd : FuncData} {ps : List Str} {ea : α → List Ag} {er : β → Rt × List (Nat × Ob)} {m : α → R β}
    (h : FnM P w K mg base j f fd ps ea er m) (l : j ≤ k) : FnM P w K mg base k f fd ps ea er m := ⟨h.len, h.cov, fun A outer s H args us vs Q E hr => h.run A outer s H args us vs Q E (hr.mono l)⟩

section
variable {K : PySem.W.Frag} {mg : Str → Option Value} {F F' : Addr → Prop} {H H' : Hp} {W : Nat → Option Addr}
theorem AgsOk.len : ∀ {i : Nat} {vs : List V} {gs : List Ag}, AgsOk K mg F H W i vs gs → vs.length = gs.length
  | _, [], [], _ => rfl
  | i, v :: vs, g :: gs, h => by rw [List.length_cons, List.length_cons, AgsOk.len h.2]
  | _, [], _ :: _, h => h.elim
  | _, _ :: _, [], h => h.elim
theorem AgsOk.get : ∀ {i : Nat} {vs : List V} {gs : List Ag}, AgsOk K mg F H W i vs gs → ∀ {j : Nat} {g : Ag}, gs[j]? = some g → ∃ v, vs[j]? = some v ∧ AgOk K mg F H W (i + j) v g
  | _, [], [], _, j, g, e => by simp at e
  | i, v :: vs, g :: gs, h, 0, g', e => by
    simp at e
    subst e
    exact ⟨v, rfl, h.1⟩
  | i, v :: vs, g :: gs, h, j + 1, g', e => by
    obtain ⟨u, h1, h2⟩ := AgsOk.get h.2 (j := j) (g := g') (by simpa using e)
    exact ⟨u, by simpa using h1, by rw [show i + (j + 1) = i + 1 + j by omega]; exact h2⟩
  | _, [], _ :: _, h, _, _, _ => h.elim
  | _, _ :: _, [], h, _, _, _ => h.elim
theorem Entry.sb {vs : List V} {gs : List Ag} (e : Entry K mg F H W vs gs) : SB ⟨H, W, F⟩ F H := by
  have at_ : ∀ j a, W j = some a → ∃ o, RepO K F H a o := fun j a hw => by
    have hj : j < gs.length := by rw [← e.ags.len]; exact e.wb j a hw
    obtain ⟨v, _, k⟩ := e.ags.get (j := j) (g := gs[j]) (List.getElem?_eq_getElem hj)
    rw [Nat.zero_add] at k
    cases q : gs[j] with
    | d x => rw [q] at k; rw [k.2] at hw; cases hw
    | f x => rw [q] at k; rw [k.2] at hw; cases hw
    | z x => rw [q] at k; rw [k.2] at hw; cases hw
    | w o =>
      rw [q] at k
      obtain ⟨a', _, h1, h2⟩ := k
      rw [hw] at h1; cases h1
      exact ⟨o, h2⟩
  exact ⟨e.fz, e.wf, fun j a hw => (at_ j a hw).elim fun o r => r.mut, fun _ _ q _ => q, fun _ f => f, fun _ f => .inl f, fun j a hw q => by
    obtain ⟨o, r⟩ := at_ j a hw
    have m := r.mut
    have q : H a = none := q
    rw [q] at m; exact m, e.wi⟩
end

/-! ### the slots at the entry -/
def slA (i : Nat) : Ag → Sl
  | .d x => .va x
  | .w o => .ow (some i) o
  | .f x => .fn x
  | .z ds => .fz ds
def slAs : Nat → List Ag → List Sl
  | _, [] => []
  | i, g :: gs => slA i g :: slAs (i + 1) gs
def startR (n : Nat) (gs : List Ag) : List Sl := slAs 0 gs ++ List.replicate (n - gs.length) .no
theorem slAs_len : ∀ (i : Nat) (gs : List Ag), (slAs i gs).length = gs.length
  | _, [] => rfl
  | i, g :: gs => by show (slAs (i + 1) gs).length + 1 = gs.length + 1; rw [slAs_len]
theorem slAs_get : ∀ (i : Nat) (gs : List Ag) {j : Nat} {s : Sl}, (slAs i gs)[j]? = some s → ∃ g, gs[j]? = some g ∧ s = slA (i + j) g
  | _, [], j, s, e => by simp [slAs] at e
  | i, g :: gs, 0, s, e => by
    simp [slAs] at e
    exact ⟨g, rfl, e.symm⟩
  | i, g :: gs, j + 1, s, e => by
    obtain ⟨g', h1, h2⟩ := slAs_get (i + 1) gs (j := j) (s := s) (by simpa [slAs] using e)
    exact ⟨g', by simpa using h1, by rw [h2, show i + 1 + j = i + (j + 1) by omega]⟩
theorem startR_get {n : Nat} {gs : List Ag} {j : Nat} {s : Sl} (e : (startR n gs)[j]? = some s) : (∃ g, gs[j]? = some g ∧ s = slA j g) ∨ (gs.length ≤ j ∧ s = .no) := by
  unfold startR at e
  by_cases h : j < gs.length
  · rw [List.getElem?_append_left (by rw [slAs_len]; exact h)] at e
    obtain ⟨g, h1, h2⟩ := slAs_get 0 gs e
    exact .inl ⟨g, h1, by rw [h2, Nat.zero_add]⟩
  · rw [List.getElem?_append_right (by rw [slAs_len]; omega), slAs_len, List.getElem?_replicate] at e
    split at e
    · cases e; exact .inr ⟨by omega, rfl⟩
    · cases e
theorem Entry.so {K : PySem.W.Frag} {mg : Str → Option Value} {F : Addr → Prop} {H : Hp} {W : Nat → Option Addr} {vs : List V} {gs : List Ag} {N : List Str} (e : Entry K mg F H W vs gs) (hN : gs.length ≤ N.length) : SO K mg ⟨H, W, F⟩ F H (L2.start N vs) (startR N.length gs) := by
  have hl := e.ags.len
  have σat : ∀ {j : Nat} {v : V}, vs[j]? = some v → (L2.start N vs)[j]? = some (some v) := fun {j v} h => by
    have hj : j < vs.length := (List.getElem?_eq_some_iff.mp h).1
    unfold L2.start
    rw [List.getElem?_append_left (by simpa using hj), List.getElem?_map, h]
    rfl
  have own : ∀ {j : Nat} {t : Option Nat} {o : Ob}, (startR N.length gs)[j]? = some (.ow t o) → ∃ a, W j = some a ∧ (L2.start N vs)[j]? = some (some (.ref a)) ∧ RepO K F H a o ∧ t = some j := fun {j t o} h => by
    rcases startR_get h with ⟨g, h1, h2⟩ | ⟨_, h2⟩
    · obtain ⟨v, h3, h4⟩ := e.ags.get h1
      rw [Nat.zero_add] at h4
      cases g with
      | d x => cases h2
      | f x => cases h2
      | z x => cases h2
      | w o' =>
        cases h2
        obtain ⟨a, rfl, h5, h6⟩ := h4
        exact ⟨a, h5, σat h3, h6, rfl⟩
    · cases h2
  refine ⟨e.sb, ?_, fun j s h => ?_, fun i j ti oi tj oj a h1 h2 h3 h4 => ?_⟩
  · unfold L2.start startR
    rw [List.length_append, List.length_append, List.length_map, List.length_replicate, List.length_replicate, slAs_len]
    omega
  · rcases startR_get h with ⟨g, h1, rfl⟩ | ⟨h1, rfl⟩
    · obtain ⟨v, h3, h4⟩ := e.ags.get h1
      rw [Nat.zero_add] at h4
      refine ⟨some v, σat h3, ?_⟩
      cases g with
      | d x => exact ⟨v, rfl, h4.1⟩
      | f x => obtain ⟨⟨a, rfl, h5⟩, _⟩ := h4; exact ⟨a, rfl, h5⟩
      | z x => obtain ⟨⟨a, xs, rfl, h5, h6⟩, _⟩ := h4; exact ⟨a, xs, rfl, h5, h6⟩
      | w o =>
        obtain ⟨a, rfl, h5, h6⟩ := h4
        exact ⟨a, rfl, h6, e.wf j a h5, h5⟩
    · have hj : j < (L2.start N vs).length := by
        have := (List.getElem?_eq_some_iff.mp h).1
        unfold startR at this
        rw [List.length_append, List.length_replicate, slAs_len] at this
        unfold L2.start
        rw [List.length_append, List.length_map, List.length_replicate]
        omega
      exact ⟨_, List.getElem?_eq_getElem hj, trivial⟩
  · obtain ⟨b, w1, q1, _⟩ := own h1
    obtain ⟨c, w2, q2, _⟩ := own h2
    rw [h3] at q1; cases q1
    rw [h4] at q2; cases q2
    exact e.wi i j _ w1 w2

/-! ### a def by its body -/
def fnPsi {β : Type} (er : β → Rt × List (Nat × Ob)) : Psi β where
  rt := fun r ρ' m' => ∃ b, m' = .ok b ∧ (er b).1 = r ∧ ∀ j o, (j, o) ∈ (er b).2 → ρ'[j]? = some (.ow (some j) o)
  nx := fun ρ' m' => ∃ b, m' = .ok b ∧ (er b).1 = .d .none ∧ ∀ j o, (j, o) ∈ (er b).2 → ρ'[j]? = some (.ow (some j) o)
/-- the place of a def's body -/
abbrev bodyC (P : Program) (w : World) (K : PySem.W.Frag) (mg : Str → Option Value) (base : Heap) (N : List Str) (qual : Str) (scope : Scope) (f : Addr) (cd : Value) (A : Around) (outer : List Env) (s : Shared) (H : Hp) (E : XK) (W : Nat → Option Addr) (F : Addr → Prop) : Cm :=
  ⟨cxOf (L2.CX P w) P w K mg base N qual scope f cd A outer s H E, ⟨H, W, F⟩, E⟩
section
variable {P : Program} {w : World} {K : PySem.W.Frag} {mg : Str → Option Value} {base : Heap} {α β : Type}
theorem fn_mirror {x qual : Str} {st : Stmt} {f : Addr} {fd : FuncData} {N ps : List Str} {k : Nat} {ea : α → List Ag} {er : β → Rt × List (Nat × Ob)} {m : α → R β} (fn : Fun K x qual st f fd) (sc : FnScope N ps (defScope st)) (len : ∀ a, (ea a).length = ps.length)
    (cov : ∀ a b j o, (ea a)[j]? = some (.w o) → ∃ o', (j, o') ∈ (er b).2)
    (hb : ∀ (cd : Value) (A : Around) (outer : List Env) (s : Shared) (H : Hp) (E : XK) (W : Nat → Option Addr) (F : Addr → Prop) (a : α), Room k (A.deeper (envOfC qual (defScope st) s.heap.objs.size f cd)) → A.guards = some [] →
      PSk (bodyC P w K mg base N qual (defScope st) f cd A outer s H E W F) (defBody st) (startR N.length (ea a)) (m a) (fnPsi er)) : FnM P w K mg base (k + 1) f fd ps ea er m := by
  refine ⟨len, cov, ?_⟩
  intro A outer s H args us vs Q E room hg env binds rv hsp
  obtain ⟨F, W, a, en, hm⟩ := hsp
  have hl : vs.length = ps.length := en.ags.len.trans (len a)
  obtain ⟨oc, od, kV, doc, pm, an, cdv, ct, osl, rfl, lk, hcd⟩ := fn.ex
  have inK : K.In s.heap := env.mod.kin.keeps fun c o e => (env.bs c o e).1
  have nolim : s.heap.NoLimit := env.mod.nolimit.keeps fun c o e => (env.bs c o e).1
  have kinds : ∀ y ∈ ps.zip us, (defScope st).names.lookup y.1 = some .local ∨ ((defScope st).names.lookup y.1 = some .cell ∧ ((cellsFrom (s.heap.objs.size + 1) (defScope st).names []).lookup y.1).isSome = true) := by
    rintro ⟨n, v⟩ hy
    rcases sc.par n (List.of_mem_zip hy).1 with q | q
    · exact .inl q
    · exact .inr ⟨q, PySem.W.cellsFrom_some _ _ _ (.inl q)⟩
  refine codeAny_call_function room.depth (inK _ _ lk) rfl sc.co sc.gen rfl (PySem.W.codeRec_of inK hcd) (binds _ _ _ _ ?_)
  refine wpAny_newFunctionEnv_cells sc.kind kinds fun ev he s1 inC => ?_
  subst he
  refine ⟨nolim.keeps inC.toInCall.keep, codeAny_func ?_⟩
  have I := inv_start (CX := L2.CX P w) (P := P) (w := w) (E := E) sc room.hd env hl rv inC
  have S0 : SO K mg ⟨H, W, F⟩ F H (L2.start N vs) (startR N.length (ea a)) := en.so (by
    have q := congrArg List.length sc.pre
    rw [List.length_take] at q
    rw [len a]
    omega)
  have good : Good (bodyC P w K mg base N qual (defScope st) f cdv A outer s H E W F) (m a) := by
    revert hm
    cases m a with
    | ok b => exact fun _ => trivial
    | exc x => exact fun h F' H' c d b r => h F' H' c d b r
    | stuck => exact fun h => h
  have posted : ∀ {r : Rt} {ρ' : List Sl} {F' : Addr → Prop} {H' : Hp} {σ' : St} {v : V}, (fnPsi er).rt r ρ' (m a) → SO K mg ⟨H, W, F⟩ F' H' σ' ρ' → RepR K ⟨H, W, F⟩ F' H' v r → Q v H' := fun {r ρ' F' H' σ' v} h S' rr => by
    obtain ⟨b, e, e2, ho⟩ := h
    rw [e] at hm
    refine hm F' H' v ⟨S'.b, by rw [e2]; exact rr, fun j o hj => ?_⟩
    obtain ⟨u, q1, c, q2, q3, _, q4⟩ := S'.sl j _ (ho j o hj)
    exact ⟨c, q4, q3⟩
  obtain ⟨t, ht, hq⟩ := hb cdv A outer s H E W F a (room.deeper _) hg good { nx := fun _ H' => Q .non H', rt := Q } (L2.start N vs) H F S0
    ⟨fun ρ' F' H' σ' ⟨b, e, e2, ho⟩ S' _ => posted (r := .d .none) ⟨b, e, e2, ho⟩ S' .non, fun r ρ' F' H' σ' v h S' _ rr => posted h S' rr, fun _ _ _ _ h => h.elim, fun _ _ _ _ h => h.elim⟩
  have done : ∀ {σ' : St} {H' : Hp} {v : V} {u : Value} {s' : Shared}, Inv (cxOf (L2.CX P w) P w K mg base N qual (defScope st) f cdv A outer s H E) [] σ' H' s' → RelV v u → Q v H' → CE outer P w H s Q u s' :=
    fun {σ' H' v u s'} J rv q => ⟨v, H', J.os, J.bare, J.base, J.hok, rv, q⟩
  refine wpAny_mono (ht.run [] s1 (L2.start N vs) H _ I hq) (fun fl s' hs => ?_) fun e s' hs => hs
  cases fl with
  | ret u =>
    obtain ⟨v, σ', H', J, r, q⟩ := hs
    exact done J r q
  | next =>
    obtain ⟨σ', H', J, q⟩ := hs
    exact done (v := .non) (u := .none) J rfl q
  | brk => exact hs.elim fun _ h => h.elim fun _ h => h.2.elim
  | cont => exact hs.elim fun _ h => h.elim fun _ h => h.2.elim
end
end MX

set_option Elab.async false
set_option linter.all false
set_option maxRecDepth 100000
set_option maxHeartbeats 4000000
/-! MXApp: the call of a def. -/
namespace MX
open PySem PySem.Spec PyProof.Rows L2

/-- what the arguments xs are to the def -/
def argsOf (ρ : List Sl) : List Av → Option (List Ag)
  | [] => some []
  | .d x :: r => (argsOf ρ r).map (.d x :: ·)
  | .f x :: r => (argsOf ρ r).map (.f x :: ·)
  | .b i :: r => match ρ[i]? with
    | some (.ow _ o) => (argsOf ρ r).map (.w o :: ·)
    | _ => none
  | .o _ :: _ => none
  | .z i :: r => match ρ[i]? with
    | some (.fz ds) => (argsOf ρ r).map (.z ds :: ·)
    | _ => none
def ownIx : List Av → List Nat
  | [] => []
  | .b i :: r => i :: ownIx r
  | _ :: r => ownIx r
def putO (ρ : List Sl) (xs : List Av) : List (Nat × Ob) → List Sl
  | [] => ρ
  | (j, o) :: r => putO (match xs[j]? with
    | some (.b i) => match ρ[i]? with
      | some (.ow t _) => ρ.set i (.ow t o)
      | _ => ρ
    | _ => ρ) xs r
def avR : Rt → Av
  | .d x => .d x
  | .o ob => .o ob
theorem putO_get : ∀ (os : List (Nat × Ob)) {ρ : List Sl} {xs : List Av} {i : Nat} {s : Sl}, (putO ρ xs os)[i]? = some s →
    (∃ t o0 j o, ρ[i]? = some (.ow t o0) ∧ (j, o) ∈ os ∧ xs[j]? = some (.b i) ∧ s = .ow t o) ∨ (ρ[i]? = some s ∧ ∀ j o, (j, o) ∈ os → xs[j]? = some (.b i) → ∀ t o0, s ≠ .ow t o0)
  | [], ρ, xs, i, s, h => .inr ⟨h, fun j o hm => nomatch hm⟩
  | (j, o) :: r, ρ, xs, i, s, h => by
    unfold putO at h
    have step : ∀ {s' : Sl}, (match xs[j]? with
        | some (.b i) => match ρ[i]? with
          | some (.ow t _) => ρ.set i (.ow t o)
          | _ => ρ
        | _ => ρ)[i]? = some s' → (∃ t o0, ρ[i]? = some (.ow t o0) ∧ xs[j]? = some (.b i) ∧ s' = .ow t o) ∨ (ρ[i]? = some s' ∧ (xs[j]? = some (.b i) → ∀ t o0, s' ≠ .ow t o0)) := fun {s'} q => by
      split at q
      · rename_i i' hx
        split at q
        · rename_i t o0 hρ
          rcases get_set q with ⟨rfl, e⟩ | ⟨ne, e⟩
          · exact .inl ⟨t, o0, hρ, hx, e.symm⟩
          · exact .inr ⟨e, fun z => by rw [hx] at z; cases z; exact absurd rfl ne⟩
        · rename_i hρ
          refine .inr ⟨q, fun z t o0 e => ?_⟩
          rw [hx] at z; cases z
          rw [e] at q
          exact hρ t o0 q
      · rename_i hx
        exact .inr ⟨q, fun z => absurd z (hx i)⟩
    rcases putO_get r h with ⟨t, o0, j', o', h1, h2, h3, h4⟩ | ⟨h1, h2⟩
    · rcases step h1 with ⟨t', o1, q1, q2, q3⟩ | ⟨q1, _⟩
      · cases q3
        exact .inl ⟨t, o1, j', o', q1, List.mem_cons_of_mem _ h2, h3, h4⟩
      · exact .inl ⟨t, o0, j', o', q1, List.mem_cons_of_mem _ h2, h3, h4⟩
    · rcases step h1 with ⟨t', o1, q1, q2, q3⟩ | ⟨q1, q2⟩
      · exact .inl ⟨t', o1, j, o, q1, List.mem_cons_self, q2, q3⟩
      · refine .inr ⟨q1, fun j' o' hm => ?_⟩
        rcases List.mem_cons.mp hm with e | hm
        · cases e; exact q2
        · exact h2 j' o' hm
theorem putO_len : ∀ (os : List (Nat × Ob)) (ρ : List Sl) (xs : List Av), (putO ρ xs os).length = ρ.length
  | [], _, _ => rfl
  | (j, o) :: r, ρ, xs => by
    unfold putO
    rw [putO_len r]
    split
    · split
      · exact List.length_set ..
      · rfl
    · rfl
theorem ownIx_mem : ∀ {xs : List Av} {i j : Nat}, xs[j]? = some (.b i) → i ∈ ownIx xs
  | [], _, _, h => by simp at h
  | x :: r, i, 0, h => by
    simp at h
    subst h
    exact List.mem_cons_self
  | x :: r, i, j + 1, h => by
    have := ownIx_mem (xs := r) (i := i) (j := j) (by simpa using h)
    cases x with
    | b k => exact List.mem_cons_of_mem _ this
    | d _ => exact this
    | f _ => exact this
    | o _ => exact this
    | z _ => exact this
theorem ownIx_inj : ∀ {xs : List Av}, (ownIx xs).Nodup → ∀ {i j k : Nat}, xs[j]? = some (.b i) → xs[k]? = some (.b i) → j = k
  | [], _, _, _, _, h, _ => by simp at h
  | x :: r, nd, i, j, k, h1, h2 => by
    have nd' : (ownIx r).Nodup := by
      cases x with
      | b _ => exact (List.nodup_cons.mp nd).2
      | d _ => exact nd
      | f _ => exact nd
      | o _ => exact nd
      | z _ => exact nd
    cases j with
    | zero =>
      simp at h1
      subst h1
      cases k with
      | zero => rfl
      | succ k => exact absurd (ownIx_mem (by simpa using h2)) (List.nodup_cons.mp nd).1
    | succ j =>
      cases k with
      | zero =>
        simp at h2
        subst h2
        exact absurd (ownIx_mem (by simpa using h1)) (List.nodup_cons.mp nd).1
      | succ k => rw [ownIx_inj nd' (j := j) (k := k) (by simpa using h1) (by simpa using h2)]
/-- the objects that go into the call -/
def inW (σ : St) (xs : List Av) (j : Nat) : Option Addr := match xs[j]? with
  | some (.b i) => match σ[i]? with
    | some (some (.ref a)) => some a
    | _ => none
  | _ => none
theorem inW_some {σ : St} {xs : List Av} {j : Nat} {a : Addr} (h : inW σ xs j = some a) : ∃ i, xs[j]? = some (.b i) ∧ σ[i]? = some (some (.ref a)) := by
  unfold inW at h
  split at h
  · rename_i i q
    split at h
    · rename_i b q2
      cases h
      exact ⟨i, q, q2⟩
    · cases h
  · cases h
section
variable {K : PySem.W.Frag} {mg : Str → Option Value} {G : Gh} {F : Addr → Prop} {H Hs : Hp} {σ : St} {ρ : List Sl}
theorem args_at (S : SO K mg G F H σ ρ) (all : List Av) : ∀ (k : Nat) {vs : List V} {xs : List Av} {gs : List Ag}, (∀ j, xs[j]? = all[k + j]?) → RepAs K mg G Hs F H σ ρ vs xs → argsOf ρ xs = some gs → AgsOk K mg F H (inW σ all) k vs gs
  | k, [], [], gs, _, _, e => by cases e; trivial
  | k, v :: vs, x :: xs, gs, ha, h, e => by
    have hk : all[k]? = some x := by
      have := ha 0
      rw [Nat.add_zero] at this
      rw [← this]
      rfl
    have tl : ∀ j, xs[j]? = all[k + 1 + j]? := fun j => by
      have := ha (j + 1)
      rw [show k + 1 + j = k + (j + 1) by omega, ← this]
      rfl
    have nw : (∀ i, x ≠ .b i) → inW σ all k = none := fun n => by
      unfold inW
      rw [hk]
      cases x with
      | b i => exact absurd rfl (n i)
      | d _ => rfl
      | f _ => rfl
      | o _ => rfl
      | z _ => rfl
    cases x with
    | d y =>
      cases q : argsOf ρ xs with
      | none => unfold argsOf at e; rw [q] at e; cases e
      | some gs' =>
        unfold argsOf at e; rw [q] at e; cases e
        exact ⟨⟨h.1, nw (by simp)⟩, args_at S all (k + 1) tl h.2 q⟩
    | f y =>
      cases q : argsOf ρ xs with
      | none => unfold argsOf at e; rw [q] at e; cases e
      | some gs' =>
        unfold argsOf at e; rw [q] at e; cases e
        exact ⟨⟨h.1, nw (by simp)⟩, args_at S all (k + 1) tl h.2 q⟩
    | o y => cases e
    | z i =>
      unfold argsOf at e
      split at e
      · rename_i ds hρ
        cases q : argsOf ρ xs with
        | none => rw [q] at e; cases e
        | some gs' =>
          rw [q] at e; cases e
          have hv : σ[i]? = some (some v) := h.1
          obtain ⟨u, e1, a, ys, e2, f, r⟩ := S.sl i _ hρ
          rw [hv] at e1; cases e1; cases e2
          exact ⟨⟨⟨a, ys, rfl, f, r⟩, nw (by simp)⟩, args_at S all (k + 1) tl h.2 q⟩
      · cases e
    | b i =>
      unfold argsOf at e
      split at e
      · rename_i t o hρ
        cases q : argsOf ρ xs with
        | none => rw [q] at e; cases e
        | some gs' =>
          rw [q] at e; cases e
          have hv : σ[i]? = some (some v) := h.1
          obtain ⟨u, e1, a, e2, r, _⟩ := S.sl i _ hρ
          rw [hv] at e1; cases e1; cases e2
          refine ⟨⟨a, rfl, ?_, r⟩, args_at S all (k + 1) tl h.2 q⟩
          unfold inW
          rw [hk]
          show (match σ[i]? with
            | some (some (.ref a)) => some a
            | _ => none) = some a
          rw [hv]
      · cases e
  | k, [], _ :: _, _, _, h, _ => h.elim
  | k, _ :: _, [], _, _, h, _ => h.elim
theorem args_own : ∀ {xs : List Av} {gs : List Ag}, argsOf ρ xs = some gs → ∀ {j i : Nat}, xs[j]? = some (.b i) → ∃ t o, ρ[i]? = some (.ow t o) ∧ gs[j]? = some (.w o)
  | [], _, _, _, _, h => by simp at h
  | x :: xs, gs, e, j, i, h => by
    have rec_ : ∀ {gs' : List Ag} {g : Ag}, argsOf ρ xs = some gs' → ∀ {j : Nat}, xs[j]? = some (.b i) → ∃ t o, ρ[i]? = some (.ow t o) ∧ (g :: gs')[j + 1]? = some (.w o) := fun {gs' g} q {j} hj => by
      obtain ⟨t, o, h1, h2⟩ := args_own q hj
      exact ⟨t, o, h1, by simpa using h2⟩
    unfold argsOf at e
    split at e
    · rename_i heq; cases heq
    · rename_i y r heq
      cases heq
      cases q : argsOf ρ xs with
      | none => rw [q] at e; cases e
      | some gs' =>
        rw [q] at e; cases e
        cases j with
        | zero => simp at h
        | succ j => exact rec_ q (by simpa using h)
    · rename_i y r heq
      cases heq
      cases q : argsOf ρ xs with
      | none => rw [q] at e; cases e
      | some gs' =>
        rw [q] at e; cases e
        cases j with
        | zero => simp at h
        | succ j => exact rec_ q (by simpa using h)
    · rename_i y r heq
      cases heq
      split at e
      · rename_i t o hρ
        cases q : argsOf ρ xs with
        | none => rw [q] at e; cases e
        | some gs' =>
          rw [q] at e; cases e
          cases j with
          | zero =>
            simp at h
            subst h
            exact ⟨t, o, hρ, rfl⟩
          | succ j => exact rec_ q (by simpa using h)
      · cases e
    · cases e
    · rename_i y r heq
      cases heq
      split at e
      · cases q : argsOf ρ xs with
        | none => rw [q] at e; cases e
        | some gs' =>
          rw [q] at e; cases e
          cases j with
          | zero => simp at h
          | succ j => exact rec_ q (by simpa using h)
      · cases e
end

section
variable {C : Cm} {β : Type} {ρ : List Sl} {m : R β} {pos px : Pos} {e : Expr} {es : List Expr} {x : Str} {Φ : Av → List Sl → R β → Prop}
/-- behind a call: what was the caller's is the caller's still -/
theorem back_so {gs : List Ag} (os : List (Nat × Ob)) {σ : St} {F1 F' : Addr → Prop} {H1 H' Hs : Hp} {ρ1 : List Sl} {vs : List V} {xs : List Av}
    (S1 : C.S F1 H1 σ ρ1) (r1 : RepAs C.X.K C.X.mg C.G Hs F1 H1 σ ρ1 vs xs) (ha : argsOf ρ1 xs = some gs) (nd : (ownIx xs).Nodup) (sb : SB ⟨H1, inW σ xs, F1⟩ F' H') :
    Fr0 (Ow σ ρ1) F1 H1 F' H' ∧ SB C.G F' H' ∧ ((∀ j o, gs[j]? = some (.w o) → ∃ o', (j, o') ∈ os) → (∀ j o, (j, o) ∈ os → ∃ a, inW σ xs j = some a ∧ RepO C.X.K F' H' a o) → C.S F' H' σ (putO ρ1 xs os) ∧ Fm σ ρ1 F1 H1 (putO ρ1 xs os) F' H') := by
  have wO : ∀ j c, inW σ xs j = some c → Ow σ ρ1 c := fun j c h => by
    obtain ⟨i, q1, q2⟩ := inW_some h
    obtain ⟨t, o, q3, _⟩ := args_own ha q1
    exact ⟨i, t, o, q3, q2⟩
  have wT : ∀ j c, inW σ xs j = some c → H1 c ≠ none := fun j c h => S1.own.tracked (wO j c h)
  have keep : ∀ c o, H1 c = some o → (∀ j, inW σ xs j ≠ some c) → H' c = some o := sb.kp
  have fr : Fr0 (fun c => ∃ j, inW σ xs j = some c) F1 H1 F' H' := ⟨fun c o q n => keep c o q fun j z => n ⟨j, z⟩, sb.f0, fun c f => (sb.fn c f).elim .inl fun q => .inr (.inl q), fun c q => by
    cases q2 : H1 c with
    | none => rfl
    | some o =>
      by_cases hw : ∃ j, inW σ xs j = some c
      · obtain ⟨j, hj⟩ := hw
        have := sb.wl j c hj
        rw [q] at this; exact this.elim
      · rw [keep c o q2 fun j z => hw ⟨j, z⟩] at q; cases q⟩
  have own : Own (fun c => ∃ j, inW σ xs j = some c) F1 H1 := fun c ⟨j, hj⟩ => S1.own c (wO j c hj)
  have fr1 : Fr0 (Ow σ ρ1) F1 H1 F' H' := ⟨fun c o q n => fr.kp c o q fun ⟨j, hj⟩ => n (wO j c hj), fr.f1, fun c f => (sb.fn c f).elim .inl fun q => .inr (.inl q), fr.tr⟩
  have nF : ∀ {c : Addr}, ¬ F1 c → H1 c ≠ none → ¬ F' c := fun {c} n1 n2 f => (sb.fn c f).elim n1 n2
  have b' : SB C.G F' H' := by
    refine ⟨sb.fz, fun j c h => nF (S1.b.wf j c h) fun q => by have := S1.b.wl j c h; rw [q] at this; exact this, fun j c h => ?_, fun c o q n => ?_, fun c f => sb.f0 c (S1.b.f0 c f), fun c f => ?_, S1.b.w0, S1.b.wi⟩
    · by_cases hw : ∃ i, inW σ xs i = some c
      · obtain ⟨i, hi⟩ := hw
        exact sb.wl i c hi
      · have mu := S1.b.wl j c h
        cases q : H1 c with
        | none => rw [q] at mu; exact mu.elim
        | some o => rw [keep c o q fun i z => hw ⟨i, z⟩]; rw [q] at mu; exact mu
    · refine keep c o (S1.b.kp c o q n) fun j z => ?_
      obtain ⟨i, t, ob, q3, q4⟩ := wO j c z
      obtain ⟨u, e1, c', e2, _, _, k⟩ := S1.sl i _ q3
      rw [q4] at e1; cases e1; cases e2
      cases t with
      | none => have k : C.G.H0 c = none := k; rw [k] at q; cases q
      | some j' => exact n j' k
    · rcases sb.fn c f with q | q
      · exact S1.b.fn c q
      · exact .inr (fresh_H0 S1.b q)
  refine ⟨fr1, b', fun cov ho => ⟨⟨b', by rw [putO_len]; exact S1.len, fun i s h => ?_, fun i j ti oi tj oj c h1 h2 h3 h4 => ?_⟩, fr1, fun c ⟨i, t, o, h1, h2⟩ => ?_⟩⟩
  · rcases putO_get _ h with ⟨t, o0, j, o, q1, q2, q3, rfl⟩ | ⟨q1, q2⟩
    · obtain ⟨u, e1, c, e2, r, nf, k⟩ := S1.sl i _ q1
      refine ⟨u, e1, c, e2, ?_, nF nf (by have := r.mut; intro z; rw [z] at this; exact this), k⟩
      obtain ⟨c', w, r'⟩ := ho j o q2
      obtain ⟨i', q4, q5⟩ := inW_some w
      rw [q3] at q4; cases q4
      rw [e1] at q5; cases q5; cases e2
      exact r'
    · obtain ⟨u, e1, k⟩ := S1.sl i s q1
      refine ⟨u, e1, ?_⟩
      cases s with
      | no => trivial
      | va d => exact k.keep own fr (by simp)
      | fz d => exact k.keep own fr (by simp)
      | fn d => exact k
      | ow t o =>
        obtain ⟨c, e2, r, nf, kk⟩ := k
        have nw : ¬ ∃ j, inW σ xs j = some c := fun ⟨j, hj⟩ => by
          obtain ⟨i', q4, q5⟩ := inW_some hj
          obtain ⟨t', o', q6, q7⟩ := args_own ha q4
          subst e2
          have : i = i' := S1.dj i i' _ _ _ _ c q1 q6 e1 q5
          subst this
          obtain ⟨o2, hm⟩ := cov j o' q7
          exact q2 j o2 hm q4 t o rfl
        exact ⟨c, e2, r.keep own fr nw, nF nf (by have := r.mut; intro z; rw [z] at this; exact this), kk⟩
  · have old : ∀ {l : Nat} {t o}, (putO ρ1 xs os)[l]? = some (.ow t o) → ∃ t' o', ρ1[l]? = some (.ow t' o') := fun {l t o} hl => by
      rcases putO_get _ hl with ⟨t, o0, _, _, q1, _⟩ | ⟨q1, _⟩
      · exact ⟨_, _, q1⟩
      · exact ⟨_, _, q1⟩
    obtain ⟨_, _, q1⟩ := old h1
    obtain ⟨_, _, q2⟩ := old h2
    exact S1.dj i j _ _ _ _ c q1 q2 h3 h4
  · rcases putO_get _ h1 with ⟨t, o0, _, _, q1, _⟩ | ⟨q1, _⟩
    · exact .inl ⟨i, _, _, q1, h2⟩
    · exact .inl ⟨i, _, _, q1, h2⟩
/-- the promise of a def, at the caller's -/
theorem spM_use {α β' : Type} {ea : α → List Ag} {er : β' → Rt × List (Nat × Ob)} {mf : α → R β'} {k : β' → R β} {a : α} (cov : ∀ a b j o, (ea a)[j]? = some (.w o) → ∃ o', (j, o') ∈ (er b).2)
    {σ : St} {F F1 : Addr → Prop} {H H1 : Hp} {ρ1 : List Sl} {vs : List V} {xs : List Av} {Q : VK} (g : Good C m) (S1 : C.S F1 H1 σ ρ1) (f1 : Fm σ ρ F H ρ1 F1 H1) (r1 : RepAs C.X.K C.X.mg C.G H F1 H1 σ ρ1 vs xs) (ha : argsOf ρ1 xs = some (ea a)) (nd : (ownIx xs).Nodup) (hm : m = R.bind (mf a) k)
    (hΦ : ∀ b, Φ (avR (er b).1) (putO ρ1 xs (er b).2) (k b)) (kk : ∀ x ρ' F' H' v, Φ x ρ' m → C.S F' H' σ ρ' → Fm σ ρ F H ρ' F' H' → RepA C.X.K C.X.mg C.G H F' H' σ ρ' v x → Q v H') :
    spM C.X.K C.X.mg ea er mf vs H1 Q C.E := by
  have wO : ∀ j c, inW σ xs j = some c → Ow σ ρ1 c := fun j c h => by
    obtain ⟨i, q1, q2⟩ := inW_some h
    obtain ⟨t, o, q3, _⟩ := args_own ha q1
    exact ⟨i, t, o, q3, q2⟩
  refine ⟨F1, inW σ xs, a, ⟨args_at S1 xs 0 (fun j => by rw [Nat.zero_add]) r1 ha, S1.b.fz, fun j c h => (S1.own c (wO j c h)).1, fun i j c h1 h2 => ?_, fun j c h => ?_⟩, ?_⟩
  · obtain ⟨i1, q1, q2⟩ := inW_some h1
    obtain ⟨i2, q3, q4⟩ := inW_some h2
    obtain ⟨t1, o1, q5, _⟩ := args_own ha q1
    obtain ⟨t2, o2, q6, _⟩ := args_own ha q3
    have : i1 = i2 := S1.dj i1 i2 _ _ _ _ c q5 q6 q2 q4
    subst this
    exact ownIx_inj nd q1 q3
  · obtain ⟨i1, q1, _⟩ := inW_some h
    rw [r1.length]
    exact (List.getElem?_eq_some_iff.mp q1).1
  · cases q : mf a with
    | stuck => rw [hm, q] at g; exact g
    | exc y =>
      intro F' H' c d sb rx
      rw [hm, q] at g
      exact g F' H' c d (back_so (C := C) [] S1 r1 ha nd sb).2.1 rx
    | ok b =>
      intro F' H' v ⟨sb, rr, ho⟩
      obtain ⟨fr1, b', hs⟩ := back_so (C := C) (er b).2 S1 r1 ha nd sb
      obtain ⟨S2, f2⟩ := hs (cov a b) ho
      refine kk _ _ F' H' v (by rw [hm, q]; exact hΦ b) S2 (f1.trans f2) ?_
      cases q2 : (er b).1 with
      | d y => rw [q2] at rr; exact rr
      | o ob =>
        rw [q2] at rr
        obtain ⟨c, e1, r, nf, g0⟩ := rr
        have g0 : H1 c = none := g0
        refine ⟨c, e1, r, nf, fresh_H0 S1.b g0, fun z => ?_, f1.fr.tr c g0⟩
        rcases f2.ow c z with q3 | q3
        · exact S1.own.tracked q3 g0
        · obtain ⟨i, t, o, h1, h2⟩ := z
          rcases putO_get _ h1 with ⟨t, o0, _, _, h3, _⟩ | ⟨h3, _⟩
          · exact S1.own.tracked ⟨i, _, _, h3, h2⟩ g0
          · exact S1.own.tracked ⟨i, _, _, h3, h2⟩ g0
/-- the def at f runs -/
theorem run_mirror {α β' : Type} {k : Nat} {f : Addr} {fd : FuncData} {ps : List Str} {ea : α → List Ag} {er : β' → Rt × List (Nat × Ob)} {mf : α → R β'} (fn : FnM C.X.prog C.X.w C.X.K C.X.mg C.X.base k f fd ps ea er mf) (hr : Room k C.X.A) (hG : C.X.A.guards = some [])
    (hb : Binds C.X.K fd ps []) (hx : Passes (L2.CX C.X.prog C.X.w) C.X C.E) {pins : List (Addr × Obj)} {σ : St} {H : Hp} {s : Shared} {Q : VK} {us : List Value} {vs : List V} (I : Inv C.X pins σ H s) (r : Vals vs us) (h : spM C.X.K C.X.mg ea er mf vs H Q C.E) :
    wpAny (model C.X.prog C.X.w) C.X.A (PySem.call (.ref f) us) (EP C.X pins σ Q) C.X.xe s := by
  have hl : us.length = ps.length := by
    obtain ⟨F, W, a, en, _⟩ := h
    exact r.length.symm.trans (en.ags.len.trans (fn.len a))
  have bt := hb s us I.kIn (by rw [List.append_nil]; exact hl)
  rw [List.append_nil] at bt
  refine wpAny_call (codeAny_mono (fn.run C.X.A C.X.stack s H ⟨us, []⟩ us vs Q C.E hr hG I.env0 bt r h) fun res s' hq => ?_)
  match res, hq with
  | .error ex, hq => exact hx pins σ H s ex s' I hq
  | .ok (.ret u), hq => exact I.after hq
  | .ok .next, hq => exact hq.elim
  | .ok .brk, hq => exact hq.elim
  | .ok .cont, hq => exact hq.elim
/-- behind the arguments of a call -/
def AfterF {α β' : Type} (ea : α → List Ag) (er : β' → Rt × List (Nat × Ob)) (mf : α → R β') (Φ : Av → List Sl → R β → Prop) (xs : List Av) (ρ1 : List Sl) (m1 : R β) : Prop :=
  ∃ (a : α) (kk : β' → R β), argsOf ρ1 xs = some (ea a) ∧ (ownIx xs).Nodup ∧ m1 = R.bind (mf a) kk ∧ ∀ b, Φ (avR (er b).1) (putO ρ1 xs (er b).2) (kk b)
theorem pek_call {α β' : Type} {k : Nat} {f : Addr} {fd : FuncData} {ps : List Str} {ea : α → List Ag} {er : β' → Rt × List (Nat × Ob)} {mf : α → R β'} (fn : FnM C.X.prog C.X.w C.X.K C.X.mg C.X.base k f fd ps ea er mf) (hr : Room k C.X.A) (hG : C.X.A.guards = some [])
    (hm : C.X.mg x = some (.ref f)) (hk : PySem.W.keepIn C.X.K (.ref f) = true) (hb : Binds C.X.K fd ps []) (hx : Passes (L2.CX C.X.prog C.X.w) C.X C.E) (h : PAk C (e :: es) ρ m (AfterF ea er mf Φ))
    (hg : Gl C.X x := by rfl) (hdb : (x == ("__debug__" : Str)) = false := by decide) (he : starEach (e :: es) C.X.env = (false, eval e C.X.env) :: starEach es C.X.env := by rfl) (hpl : (backTo pos (starEach es C.X.env)).any (·.1) = false := by rfl) :
    PEk C (.Call (.Name x px) (e :: es) [] pos) ρ m Φ := fun g σ H Q F S kk => by
  refine ⟨fun σ' H' Q' => twA C.X (e :: es) σ' H' fun vs H1 => spM C.X.K C.X.mg ea er mf vs H1 Q' C.E, ⟨fun pins s σ' H' Q' I hq => ?_⟩, h g σ H _ F S fun xs ρ1 F1 H1 vs hx' S1 f1 r1 => ?_⟩
  · refine wpAny_Call_Name_kw (ld_glob I hg hm ?_ hdb)
    refine PySem.W.callWith_K (h₀ := C.X.base) I.ok.mod.kin hk (thn (pa_tw.run pos pins s σ' H' _ I hq) fun us s2 ⟨vs, H2, I2, r, q⟩ => ?_) he hpl
    exact ⟨I2.kIn, run_mirror fn hr hG hb hx I2 r q⟩
  · obtain ⟨a, k', e1, nd, e2, hΦ⟩ := hx'
    exact spM_use fn.cov g S1 f1 r1 e1 nd e2 hΦ kk
/-- f(..), f the def that slot i holds -/
theorem pek_callL (i : Nat) {y : Str} {α β' : Type} {k : Nat} {f : Addr} {fd : FuncData} {ps : List Str} {ea : α → List Ag} {er : β' → Rt × List (Nat × Ob)} {mf : α → R β'} (fn : FnM C.X.prog C.X.w C.X.K C.X.mg C.X.base k f fd ps ea er mf) (hr : Room k C.X.A) (hG : C.X.A.guards = some [])
    (hm : C.X.mg y = some (.ref f)) (hk : PySem.W.keepIn C.X.K (.ref f) = true) (hb : Binds C.X.K fd ps []) (hx : Passes (L2.CX C.X.prog C.X.w) C.X C.E) (h : PAk C (e :: es) ρ m (AfterF ea er mf Φ))
    (hρ : ρ[i]? = some (.fn y) := by rfl) (hN : C.X.N[i]? = some x := by rfl) (hv : Vis C.X.env.scope x := by first | exact Or.inl rfl | exact Or.inr (Or.inl rfl) | exact Or.inr (Or.inr rfl)) (hdb : (x == ("__debug__" : Str)) = false := by decide) (hcd : (x == ("__classdict__" : Str)) = false := by decide)
    (he : starEach (e :: es) C.X.env = (false, eval e C.X.env) :: starEach es C.X.env := by rfl) (hpl : (backTo pos (starEach es C.X.env)).any (·.1) = false := by rfl) :
    PEk C (.Call (.Name x px) (e :: es) [] pos) ρ m Φ := fun g σ H Q F S kk => by
  refine ⟨fun σ' H' Q' => σ'[i]? = some (some (.ref f)) ∧ twA C.X (e :: es) σ' H' fun vs H1 => spM C.X.K C.X.mg ea er mf vs H1 Q' C.E, ⟨fun pins s σ' H' Q' I ⟨hs, hq⟩ => ?_⟩, ?_, h g σ H _ F S fun xs ρ1 F1 H1 vs hx' S1 f1 r1 => ?_⟩
  · refine wpAny_Call_Name_kw (thn ((pe_var (pos := px) hN hv hdb hcd).run pins s σ' H' (fun v H1 => v = .ref f ∧ H1 = H') I ⟨.ref f, hs, rfl, rfl⟩) fun u s1 ⟨v, H1, I1, r1, q1⟩ => ?_)
    obtain ⟨rfl, rfl⟩ := q1
    cases r1
    refine PySem.W.callWith_K (h₀ := C.X.base) I.ok.mod.kin hk (thn (pa_tw.run pos pins s1 σ' _ _ I1 hq) fun us s2 ⟨vs, H2, I2, r, q⟩ => ?_) he hpl
    exact ⟨I2.kIn, run_mirror fn hr hG hb hx I2 r q⟩
  · obtain ⟨u, e1, a, e2, e3⟩ := S.sl i _ hρ
    rw [hm] at e3
    cases e3
    rw [e1, e2]
  · obtain ⟨a, k', e1, nd, e2, hΦ⟩ := hx'
    exact spM_use fn.cov g S1 f1 r1 e1 nd e2 hΦ kk
end
/-! ### in a def's body -/
section
variable {P : Program} {w : World} {K : PySem.W.Frag} {mg : Str → Option Value} {base : Heap} {N : List Str} {qual : Str} {scope : Scope} {f : Addr} {cd : Value} {A : Around} {outer : List Env} {s : Shared} {H : Hp} {E : XK} {W : Nat → Option Addr} {F : Addr → Prop}
theorem body_passes : Passes (L2.CX P w) (bodyC P w K mg base N qual scope f cd A outer s H E W F).X E := passes_call (W := fun cls d _ H => E cls d H) (takes_of rfl rfl rfl rfl) fun _ _ _ _ h => h
theorem body_own : PassesOwn (model P w) (bodyC P w K mg base N qual scope f cd A outer s H E W F).X.A (bodyC P w K mg base N qual scope f cd A outer s H E W F).X.env (bodyC P w K mg base N qual scope f cd A outer s H E W F).X.xe := passes_of rfl
theorem body_guards (h : A.guards = some []) : (bodyC P w K mg base N qual scope f cd A outer s H E W F).X.A.guards = some [] := h
/-- within a comprehension nothing is let out -/
theorem blk_passes {C : Cm} {s' : Shared} {H' : Hp} {sc : Scope} {Ca : Addr} {cl : List (Str × Addr)} {fp : List Addr} : Passes (L2.CX C.X.prog C.X.w) (C.blk s' H' sc Ca cl fp).X (C.blk s' H' sc Ca cl fp).E := fun _ _ _ _ _ _ _ h => by
  obtain ⟨_, _, _, _, _, _, _, _, _, _, _, _, z⟩ := h
  exact z.elim
end
end MX

set_option Elab.async false
set_option linter.all false
set_option maxRecDepth 100000
set_option maxHeartbeats 4000000
/-! MXGen: the rules as the printed derivations use them. -/
namespace MX
open PySem PySem.Spec PyProof.Rows L2

section
variable {C : Cm} {β : Type} {Ψ : Psi β} {ρ : List Sl} {m : R β} {pos px : Pos} {a b e c : Expr} {es : List Expr} {x y : Str} {st : Stmt} {sts A B : List Stmt}
/-! ### shapes that k is found by -/
theorem AfterC.all {f : D → D → Option Bool} {x y : Av} {dx dy : D} {k : Bool → R β} {Φ : Bool → R β → Prop} (e1 : view ρ x = some dx) (e2 : view ρ y = some dy) (e3 : m = R.opt (f dx dy) k) (h : ∀ c, Φ c (k c)) : AfterC ρ f x y m Φ := ⟨dx, dy, k, e1, e2, e3, h true, h false⟩
theorem AfterN.all {f : D → Bool} {x : Av} {d : D} {k : Bool → R β} {Φ : Bool → R β → Prop} (e1 : view ρ x = some d) (e3 : m = k (f d)) (h : ∀ c, Φ c (k c)) : AfterN ρ f x m Φ := ⟨d, k, e1, e3, h true, h false⟩
theorem AfterT.all {f : D → Option Bool} {x : Av} {d : D} {k : Bool → R β} {Φ : Bool → R β → Prop} (e1 : view ρ x = some d) (e3 : m = R.opt (f d) k) (h : ∀ c, Φ c (k c)) : AfterT ρ f x m Φ := ⟨d, k, e1, e3, h true, h false⟩
/-- the slots, written anew -/
theorem psk_re (ρ' : List Sl) (h : PSk C sts ρ' m Ψ) (e : ρ = ρ' := by rfl) : PSk C sts ρ m Ψ := e ▸ h
theorem psk_nx {P : List Sl → R β → Prop} (ρ' : List Sl) (h : P ρ' m) (e : ρ = ρ' := by rfl) : P ρ m := e ▸ h
/-- targets: a tuple of two, three, five -/
def un2 (d : D) : Option (D × D) := match unD 2 d with
  | some [a, b] => some (a, b)
  | _ => none
def un3 (d : D) : Option (D × D × D) := match unD 3 d with
  | some [a, b, c] => some (a, b, c)
  | _ => none
def un5 (d : D) : Option (D × D × D × D × D) := match unD 5 d with
  | some [a, b, c, d, e] => some (a, b, c, d, e)
  | _ => none
theorem unD_len {n : Nat} {d : D} {ds : List D} (h : unD n d = some ds) : ds.length = n := by
  unfold unD at h
  split at h
  · obtain ⟨h1, rfl⟩ := ofIfB h; exact h1
  · cases h
theorem pgk_tup2 {T : List Nat} {t1 t2 : Expr} {d : D} {k' : Nat} {Φ : List Sl → R β → Prop} (h : ∃ k, m = R.opt (un2 d) k ∧ ∀ a b, PGsk C T [t1, t2] [a, b] ρ (k (a, b)) Φ) (hc : C.X.calm = true)
    (hn : (assignEach [t1, t2] C.X.env).length = 2 := by rfl) (hst : (assignEach [t1, t2] C.X.env).findIdx? (·.1) = none := by rfl) : PGk C T (.Tuple [t1, t2] k' pos) d ρ m Φ := by
  obtain ⟨k, e, h1⟩ := h
  refine pgk_tup (n := 2) ⟨fun ds => match ds with
    | [a, b] => k (a, b)
    | _ => .stuck, ?_, fun ds hl => ?_⟩ hc hn hst
  · rw [e]
    unfold un2
    cases q : unD 2 d with
    | none => rfl
    | some ds =>
      match ds, unD_len q with
      | [a, b], _ => rfl
  · match ds, hl with
    | [a, b], _ => exact h1 a b
theorem pgk_tup3 {T : List Nat} {t1 t2 t3 : Expr} {d : D} {k' : Nat} {Φ : List Sl → R β → Prop} (h : ∃ k, m = R.opt (un3 d) k ∧ ∀ a b c, PGsk C T [t1, t2, t3] [a, b, c] ρ (k (a, b, c)) Φ) (hc : C.X.calm = true)
    (hn : (assignEach [t1, t2, t3] C.X.env).length = 3 := by rfl) (hst : (assignEach [t1, t2, t3] C.X.env).findIdx? (·.1) = none := by rfl) : PGk C T (.Tuple [t1, t2, t3] k' pos) d ρ m Φ := by
  obtain ⟨k, e, h1⟩ := h
  refine pgk_tup (n := 3) ⟨fun ds => match ds with
    | [a, b, c] => k (a, b, c)
    | _ => .stuck, ?_, fun ds hl => ?_⟩ hc hn hst
  · rw [e]
    unfold un3
    cases q : unD 3 d with
    | none => rfl
    | some ds =>
      match ds, unD_len q with
      | [a, b, c], _ => rfl
  · match ds, hl with
    | [a, b, c], _ => exact h1 a b c
theorem pgk_tup5 {T : List Nat} {t1 t2 t3 t4 t5 : Expr} {d : D} {k' : Nat} {Φ : List Sl → R β → Prop} (h : ∃ k, m = R.opt (un5 d) k ∧ ∀ a b c d e, PGsk C T [t1, t2, t3, t4, t5] [a, b, c, d, e] ρ (k (a, b, c, d, e)) Φ) (hc : C.X.calm = true)
    (hn : (assignEach [t1, t2, t3, t4, t5] C.X.env).length = 5 := by rfl) (hst : (assignEach [t1, t2, t3, t4, t5] C.X.env).findIdx? (·.1) = none := by rfl) : PGk C T (.Tuple [t1, t2, t3, t4, t5] k' pos) d ρ m Φ := by
  obtain ⟨k, e, h1⟩ := h
  refine pgk_tup (n := 5) ⟨fun ds => match ds with
    | [a, b, c, d, e] => k (a, b, c, d, e)
    | _ => .stuck, ?_, fun ds hl => ?_⟩ hc hn hst
  · rw [e]
    unfold un5
    cases q : unD 5 d with
    | none => rfl
    | some ds =>
      match ds, unD_len q with
      | [a, b, c, d, e], _ => rfl
  · match ds, hl with
    | [a, b, c, d, e], _ => exact h1 a b c d e

/-- o.extend(e) -/
theorem ps1_extend (i : Nat) {cpos apos : Pos} (h : ∃ t0 ds0, ρ[i]? = some (.ow t0 (.ls ds0)) ∧ PEk C e ρ m fun x ρ1 m1 => ∃ t ds d k, viewT ρ1 x = some d ∧ ρ1[i]? = some (.ow t (.ls ds)) ∧ m1 = R.opt (exD ds d) k ∧ ∀ zs, Ψ.nx (ρ1.set i (.ow t (.ls zs))) (k zs))
    (hN : C.X.N[i]? = some y := by rfl) (hv : Vis C.X.env.scope y := by first | exact Or.inl rfl | exact Or.inr (Or.inl rfl) | exact Or.inr (Or.inr rfl)) (hd : (y == ("__debug__" : Str)) = false := by decide) (hcd : (y == ("__classdict__" : Str)) = false := by decide)
    (h1 : attributeBase (.Name y px) "extend" C.X.env (eval (.Name y px) C.X.env) = eval (.Name y px) C.X.env := by rfl)
    (h2 : ((backTo cpos (starEach [e] C.X.env)).all (fun x => !x.1) && (backToKw cpos (keywordEach [] C.X.env)).all (fun x => x.1.isSome) && decide ([e].length + ([] : List Keyword).length + (if ([] : List Keyword).isEmpty then 0 else 1) < 30)) = true := by rfl)
    (h3 : (apos.endLine == cpos.line) = true := by rfl) (h4 : starEach [e] C.X.env = (false, eval e C.X.env) :: starEach [] C.X.env := by rfl) (h5 : (backTo cpos (starEach [] C.X.env)).any (·.1) = false := by rfl)
    (h6 : swapsWith (.Call (.Attribute (.Name y px) "extend" apos) [e] [] cpos) none pos.line C.X.env = pure false := by rfl) : PS1 C (.Expr (.Call (.Attribute (.Name y px) "extend" apos) [e] [] cpos) pos) ρ m Ψ :=
  ps1_meth i PySem.F.plainAttrs_list PySem.F.slot_list_extend PySem.F.type_list_extend mt_ext hr_extend h hN hv hd hcd h1 h2 h3 h4 h5 h6
/-! ### a list that a name owns is fixed between two statements -/
theorem SO.freeze {K : PySem.W.Frag} {mg : Str → Option Value} {G : Gh} {F : Addr → Prop} {H : Hp} {σ : St} {i : Nat} {ds : List D} (S : SO K mg G F H σ ρ) (hρ : ρ[i]? = some (.ow none (.ls ds))) :
    ∃ F', SO K mg G F' H σ (ρ.set i (.va (.list ds))) ∧ Fm σ ρ F H (ρ.set i (.va (.list ds))) F' H := by
  have S0 := S
  obtain ⟨u, e, a, e2, ⟨xs, e3, r⟩, nf, g0⟩ := S.sl i _ hρ
  have g0 : G.H0 a = none := g0
  subst e2
  have hi : i < ρ.length := (List.getElem?_eq_some_iff.mp hρ).1
  have hOa : Ow σ ρ a := ⟨i, none, .ls ds, hρ, e⟩
  have fr : Fr0 (fun b => b = a) F H (fun b => F b ∨ b = a) H := ⟨fun _ _ q _ => q, fun _ f => .inl f, fun b f => f.elim .inl fun q => .inr (.inr q), fun _ h => h⟩
  have ho : Own (fun b => b = a) F H := fun b q => by subst q; exact ⟨nf, by rw [e3]; trivial⟩
  have nw : ∀ j, G.W j ≠ some a := fun j q => S.b.w0 j a q g0
  have r' := r.keep ho fr
  refine ⟨fun b => F b ∨ b = a, ⟨⟨?_, ?_, S.b.wl, S.b.kp, fun b f => .inl (S.b.f0 b f), ?_, S.b.w0, S.b.wi⟩, by rw [List.length_set]; exact S.len, ?_, ?_⟩, ⟨⟨fun _ _ q _ => q, fun _ f => .inl f, fun b f => f.elim .inl fun q => .inr (.inr (q ▸ hOa)), fun _ h => h⟩, fun b z => .inl (set_ow (F := F) (F' := F) (H := H) (H' := H) z (by simp))⟩⟩
  · rintro b (f | rfl)
    · exact S.b.fz b f
    · exact ⟨xs, e3⟩
  · rintro j b w (f | rfl)
    · exact S.b.wf j b w f
    · exact nw j w
  · rintro b (f | rfl)
    · exact S.b.fn b f
    · exact .inr g0
  · intro j s hj
    by_cases q : i = j
    · subst q
      rw [List.getElem?_set_self hi] at hj
      cases hj
      exact ⟨_, e, _, rfl, .lst (.inr rfl) e3 r'⟩
    · rw [List.getElem?_set_ne q] at hj
      obtain ⟨w, hw, ok⟩ := S.sl j s hj
      refine ⟨w, hw, ?_⟩
      cases s with
      | no => trivial
      | va d => exact ok.keep ho fr (by simp)
      | fz d => exact ok.keep ho fr (by simp)
      | fn d => exact ok
      | ow t o =>
        obtain ⟨b, eb, rb, nb, kb⟩ := ok
        have hba : b ≠ a := fun z => by
          subst z; subst eb
          exact q (S0.dj i j _ _ _ _ b hρ hj e hw)
        exact ⟨b, eb, rb.keep ho fr hba, fun f => f.elim nb hba, kb⟩
  · intro j l tj oj tl ol b h1 h2 h3 h4
    have old : ∀ {l : Nat} {t o}, (ρ.set i (Sl.va (.list ds)))[l]? = some (.ow t o) → ρ[l]? = some (.ow t o) := fun {l t o} hl => by
      by_cases q : i = l
      · subst q; rw [List.getElem?_set_self hi] at hl; cases hl
      · rw [List.getElem?_set_ne q] at hl; exact hl
    exact S.dj j l _ _ _ _ b (old h1) (old h2) h3 h4
theorem psk_fz (i : Nat) {ds : List D} (h : PSk C sts (ρ.set i (.va (.list ds))) m Ψ) (hρ : ρ[i]? = some (.ow none (.ls ds)) := by rfl) : PSk C sts ρ m Ψ := fun g D σ H F S k => by
  obtain ⟨F', S', f⟩ := S.freeze hρ
  exact h g D σ H F' S' (k.mono f.fs)

/-! ### a dict of the module, read by its key -/
def kdD (tab : List (Str × D)) : D → Option D
  | .str x => tab.lookup x
  | _ => none
structure DCst (K : PySem.W.Frag) (w : World) (mg : Str → Option Value) (x : Str) (tab : List (Str × D)) : Prop where
  at_ : ∃ p, mg x = some (.ref p) ∧ ∀ z d, tab.lookup z = some d → ∃ v, KDct K w p z v ∧ ∀ F H, Rep K F H v d
theorem pek_kd {tab : List (Str × D)} (c : DCst C.X.K C.X.w C.X.mg x tab) {Φ : Av → List Sl → R β → Prop} (h : PEk C b ρ m fun y ρ1 m1 => ∃ dy k, view ρ1 y = some dy ∧ m1 = R.opt (kdD tab dy) k ∧ ∀ z, Φ (.d z) ρ1 (k z))
    (hg : Gl C.X x := by rfl) (hd : (x == ("__debug__" : Str)) = false := by decide) (hs : PlainIx b := by exact fun _ _ => rfl) : PEk C (.Subscript (.Name x px) b pos) ρ m Φ := fun g σ H Q F S k => by
  obtain ⟨p, e, q⟩ := c.at_
  refine ⟨_, pe_ix ix_kdict (pe_glob (v := .ref p) hg e rfl hd) pe_tw hs, h g σ H _ F S fun y ρ1 F1 H1 u hy S1 f1 r1 => ?_⟩
  obtain ⟨dy, kk, e1, e2, h1⟩ := hy
  have q1 := r1.now S1 e1
  rw [e2] at g
  cases q2 : kdD tab dy with
  | none => rw [q2] at g; exact g.elim
  | some z =>
    unfold kdD at q2
    split at q2
    · rename_i y'
      obtain ⟨v, hv, hr⟩ := q y' z q2
      cases q1
      exact ⟨p, y', v, rfl, rfl, hv, k (.d z) ρ1 F1 H1 v (by rw [e2, show kdD tab (.str y') = some z from q2]; exact h1 z) S1 f1 (hr F1 H1)⟩
    · cases q2

/-! ### a def of the module, with what it promises -/
structure DefAt (K : PySem.W.Frag) (mg : Str → Option Value) (x : Str) (st : Stmt) (ps : List Str) : Prop where
  at_ : ∃ f fd, mg x = some (.ref f) ∧ PySem.W.keepIn K (.ref f) = true ∧ Binds K fd ps [] ∧ Fun K x x st f fd
structure Has {α β : Type} (P : Program) (w : World) (K : PySem.W.Frag) (mg : Str → Option Value) (base : Heap) (k : Nat) (x : Str) (ps : List Str) (ea : α → List Ag) (er : β → Rt × List (Nat × Ob)) (m : α → R β) : Prop where
  at_ : ∃ f fd, mg x = some (.ref f) ∧ PySem.W.keepIn K (.ref f) = true ∧ Binds K fd ps [] ∧ FnM P w K mg base k f fd ps ea er m
theorem Has.mono {α β : Type} {P : Program} {w : World} {K : PySem.W.Frag} {mg : Str → Option Value} {base : Heap} {j k : Nat} {x : Str} {ps : List Str} {ea : α → List Ag} {er : β → Rt × List (Nat × Ob)} {m : α → R β} (h : Has P w K mg base j x ps ea er m) (l : j ≤ k) : Has P w K mg base k x ps ea er m := by
  obtain ⟨f, fd, h1, h2, h3, h4⟩ := h.at_
  exact ⟨f, fd, h1, h2, h3, h4.mono l⟩
/-- a def that is never asked -/
theorem Has.stuck {α β : Type} {P : Program} {w : World} {K : PySem.W.Frag} {mg : Str → Option Value} {base : Heap} {k : Nat} {x : Str} {st : Stmt} {ps : List Str} (d : DefAt K mg x st ps) {ea : α → List Ag} {er : β → Rt × List (Nat × Ob)} (len : ∀ a, (ea a).length = ps.length)
    (cov : ∀ a b j o, (ea a)[j]? = some (.w o) → ∃ o', (j, o') ∈ (er b).2) : Has P w K mg base k x ps ea er (fun _ => (R.stuck : R β)) := by
  obtain ⟨f, fd, h1, h2, h3, h4⟩ := d.at_
  exact ⟨f, fd, h1, h2, h3, len, cov, fun A outer s H args us vs Q E _ _ _ _ _ h => by
    obtain ⟨_, _, _, _, z⟩ := h
    exact z.elim⟩
theorem Has.mk' {α β : Type} {P : Program} {w : World} {K : PySem.W.Frag} {mg : Str → Option Value} {base : Heap} {x : Str} {st : Stmt} {N ps : List Str} {k : Nat} {ea : α → List Ag} {er : β → Rt × List (Nat × Ob)} {m : α → R β} (d : DefAt K mg x st ps) (sc : FnScope N ps (defScope st)) (len : ∀ a, (ea a).length = ps.length)
    (cov : ∀ a b j o, (ea a)[j]? = some (.w o) → ∃ o', (j, o') ∈ (er b).2)
    (hb : ∀ (f : Addr) (cd : Value) (A : Around) (outer : List Env) (s : Shared) (H : Hp) (E : XK) (W : Nat → Option Addr) (F : Addr → Prop) (a : α), Room k (bodyC P w K mg base N x (defScope st) f cd A outer s H E W F).X.A → (bodyC P w K mg base N x (defScope st) f cd A outer s H E W F).X.A.guards = some [] →
      PSk (bodyC P w K mg base N x (defScope st) f cd A outer s H E W F) (defBody st) (startR N.length (ea a)) (m a) (fnPsi er)) : Has P w K mg base (k + 1) x ps ea er m := by
  obtain ⟨f, fd, h1, h2, h3, h4⟩ := d.at_
  exact ⟨f, fd, h1, h2, h3, fn_mirror h4 sc len cov fun cd A outer s H E W F a hr hg => hb f cd A outer s H E W F a hr hg⟩
theorem pek_has {α β' : Type} {k : Nat} {ps : List Str} {ea : α → List Ag} {er : β' → Rt × List (Nat × Ob)} {mf : α → R β'} {Φ : Av → List Sl → R β → Prop} (hs : Has C.X.prog C.X.w C.X.K C.X.mg C.X.base k x ps ea er mf) (hr : Room k C.X.A) (hG : C.X.A.guards = some [])
    (hx : Passes (L2.CX C.X.prog C.X.w) C.X C.E) (h : PAk C (e :: es) ρ m (AfterF ea er mf Φ))
    (hg : Gl C.X x := by rfl) (hdb : (x == ("__debug__" : Str)) = false := by decide) (he : starEach (e :: es) C.X.env = (false, eval e C.X.env) :: starEach es C.X.env := by rfl) (hpl : (backTo pos (starEach es C.X.env)).any (·.1) = false := by rfl) :
    PEk C (.Call (.Name x px) (e :: es) [] pos) ρ m Φ := by
  obtain ⟨f, fd, h1, h2, h3, h4⟩ := hs.at_
  exact pek_call h4 hr hG h1 h2 h3 hx h hg hdb he hpl
/-- .. the def that slot i holds -/
theorem pek_hasL (i : Nat) {y : Str} {α β' : Type} {k : Nat} {ps : List Str} {ea : α → List Ag} {er : β' → Rt × List (Nat × Ob)} {mf : α → R β'} {Φ : Av → List Sl → R β → Prop} (hs : Has C.X.prog C.X.w C.X.K C.X.mg C.X.base k y ps ea er mf) (hr : Room k C.X.A) (hG : C.X.A.guards = some [])
    (hx : Passes (L2.CX C.X.prog C.X.w) C.X C.E) (h : PAk C (e :: es) ρ m (AfterF ea er mf Φ))
    (hρ : ρ[i]? = some (.fn y) := by rfl) (hN : C.X.N[i]? = some x := by rfl) (hv : Vis C.X.env.scope x := by first | exact Or.inl rfl | exact Or.inr (Or.inl rfl) | exact Or.inr (Or.inr rfl)) (hdb : (x == ("__debug__" : Str)) = false := by decide) (hcd : (x == ("__classdict__" : Str)) = false := by decide)
    (he : starEach (e :: es) C.X.env = (false, eval e C.X.env) :: starEach es C.X.env := by rfl) (hpl : (backTo pos (starEach es C.X.env)).any (·.1) = false := by rfl) :
    PEk C (.Call (.Name x px) (e :: es) [] pos) ρ m Φ := by
  obtain ⟨f, fd, h1, h2, h3, h4⟩ := hs.at_
  exact pek_callL i h4 hr hG h1 h2 h3 hx h hρ hN hv hdb hcd he hpl
/-- the name of a def, as a value -/
theorem pek_hasN {α β' : Type} {k : Nat} {ps : List Str} {ea : α → List Ag} {er : β' → Rt × List (Nat × Ob)} {mf : α → R β'} {Φ : Av → List Sl → R β → Prop} (hs : Has C.X.prog C.X.w C.X.K C.X.mg C.X.base k x ps ea er mf) (h : Φ (.f x) ρ m) (hg : Gl C.X x := by rfl) (hd : (x == ("__debug__" : Str)) = false := by decide) : PEk C (.Name x pos) ρ m Φ := by
  obtain ⟨f, fd, h1, _⟩ := hs.at_
  exact pek_fnG h1 h hg hd
end
/-! ### what defs give back -/
def erD (b : D) : Rt × List (Nat × Ob) := (.d b, [])
def erB (b : Bool) : Rt × List (Nat × Ob) := (.d (.bool b), [])
def erO (b : List D) : Rt × List (Nat × Ob) := (.o (.ls b), [])
/-- .. and the list that came by parameter i -/
def erW (i : Nat) (b : List D) : Rt × List (Nat × Ob) := (.d .none, [(i, .ls b)])
def erDW (i : Nat) (b : D × List D) : Rt × List (Nat × Ob) := (.d b.1, [(i, .ls b.2)])
def erDWW (i j : Nat) (b : D × List D × List D) : Rt × List (Nat × Ob) := (.d b.1, [(i, .ls b.2.1), (j, .ls b.2.2)])
theorem rt_d {b : D} {ρ : List Sl} {m : R D} (e : m = .ok b) : (fnPsi erD).rt (.d b) ρ m := ⟨b, e, rfl, fun j o h => by cases h⟩
theorem rt_b {b : Bool} {ρ : List Sl} {m : R Bool} (e : m = .ok b) : (fnPsi erB).rt (.d (.bool b)) ρ m := ⟨b, e, rfl, fun j o h => by cases h⟩
theorem rt_o {b : List D} {ρ : List Sl} {m : R (List D)} (e : m = .ok b) : (fnPsi erO).rt (.o (.ls b)) ρ m := ⟨b, e, rfl, fun j o h => by cases h⟩
theorem nx_w {i : Nat} {b : List D} {ρ : List Sl} {m : R (List D)} (e : m = .ok b) (h : ρ[i]? = some (.ow (some i) (.ls b))) : (fnPsi (erW i)).nx ρ m := ⟨b, e, rfl, fun j o hj => by
  obtain ⟨rfl, rfl⟩ : j = i ∧ o = .ls b := by simpa [erW] using hj
  exact h⟩
theorem rt_dw {i : Nat} {b : D} {c : List D} {ρ : List Sl} {m : R (D × List D)} (e : m = .ok (b, c)) (h : ρ[i]? = some (.ow (some i) (.ls c))) : (fnPsi (erDW i)).rt (.d b) ρ m := ⟨(b, c), e, rfl, fun j o hj => by
  obtain ⟨rfl, rfl⟩ : j = i ∧ o = .ls c := by simpa [erDW] using hj
  exact h⟩
theorem rt_dww {i j : Nat} {b : D} {c d : List D} {ρ : List Sl} {m : R (D × List D × List D)} (e : m = .ok (b, c, d)) (h : ρ[i]? = some (.ow (some i) (.ls c))) (h2 : ρ[j]? = some (.ow (some j) (.ls d))) : (fnPsi (erDWW i j)).rt (.d b) ρ m := ⟨(b, c, d), e, rfl, fun l o hj => by
  have : (l = i ∧ o = .ls c) ∨ (l = j ∧ o = .ls d) := by simpa [erDWW] using hj
  rcases this with ⟨rfl, rfl⟩ | ⟨rfl, rfl⟩
  · exact h
  · exact h2⟩

/-! ### shapes of the printed functions -/
def R.opt2 {α1 α2 β : Type} (o : Option (α1 × α2)) (k : α1 → α2 → R β) : R β := R.opt o fun p => k p.1 p.2
def R.opt3 {α1 α2 α3 β : Type} (o : Option (α1 × α2 × α3)) (k : α1 → α2 → α3 → R β) : R β := R.opt o fun p => k p.1 p.2.1 p.2.2
def R.opt5 {α1 α2 α3 α4 α5 β : Type} (o : Option (α1 × α2 × α3 × α4 × α5)) (k : α1 → α2 → α3 → α4 → α5 → R β) : R β := R.opt o fun p => k p.1 p.2.1 p.2.2.1 p.2.2.2.1 p.2.2.2.2
def R.bind2 {α1 α2 β : Type} (o : R (α1 × α2)) (k : α1 → α2 → R β) : R β := R.bind o fun p => k p.1 p.2
def nxK {γ β : Type} (k : γ → R β) : Ct γ → R β
  | .nx c => k c
  | _ => .stuck
def asInt (i : D) : Option Int := match i with | .int j => some j | _ => none
theorem AfterN.opt {β : Type} {m : R β} {ρ : List Sl} {f : D → Bool} {x : Av} {d : D} {k : Bool → R β} {Φ : Bool → R β → Prop} (e1 : view ρ x = some d) (e3 : m = R.opt (some (f d)) k) (h : ∀ c, Φ c (k c)) : AfterN ρ f x m Φ := ⟨d, k, e1, e3, h true, h false⟩
theorem room_eq {A : Around} {k : Nat} (h : Room k A) (hk : 7 ≤ k) : A.units + 300 < cLine := by
  have := h.un
  omega
theorem room_repr {A : Around} {k : Nat} (h : Room k A) (hk : 7 ≤ k) : A.units + 302 < cLine := by
  have := h.un
  omega

section
variable {C : Cm} {β : Type} {Ψ : Psi β} {ρ : List Sl} {m : R β} {pos px : Pos} {a b e tg iter elt : Expr} {x y : Str} {st : Stmt} {sts body : List Stmt} {T : List Nat} {d : D} {scope : Scope}
theorem pok_s {Φ : Option Int → List Sl → R β → Prop} (h : PEk C e ρ m fun x ρ1 m1 => ∃ i k, x = .d i ∧ m1 = R.opt (asInt i) k ∧ ∀ j, Φ (some j) ρ1 (k j)) : POk C (some e) ρ m Φ := pok_some fun g σ H Q F S kk =>
  h g σ H Q F S fun x ρ' F' H' v ⟨i, k, e1, e2, h2⟩ S' f r => kk x ρ' F' H' v ⟨i, k, e1, by rw [e2]; cases i <;> rfl, h2⟩ S' f r
theorem pgk_t2 {t1 t2 : Expr} {k' : Nat} {Φ : List Sl → R β → Prop} (h : ∃ k, m = R.opt2 (un2 d) k ∧ ∀ a b, PGsk C T [t1, t2] [a, b] ρ (k a b) Φ) (hc : C.X.calm = true)
    (hn : (assignEach [t1, t2] C.X.env).length = 2 := by rfl) (hst : (assignEach [t1, t2] C.X.env).findIdx? (·.1) = none := by rfl) : PGk C T (.Tuple [t1, t2] k' pos) d ρ m Φ := by
  obtain ⟨k, e, h1⟩ := h
  exact pgk_tup2 ⟨fun p => k p.1 p.2, e, fun a b => h1 a b⟩ hc hn hst
theorem pgk_t3 {t1 t2 t3 : Expr} {k' : Nat} {Φ : List Sl → R β → Prop} (h : ∃ k, m = R.opt3 (un3 d) k ∧ ∀ a b c, PGsk C T [t1, t2, t3] [a, b, c] ρ (k a b c) Φ) (hc : C.X.calm = true)
    (hn : (assignEach [t1, t2, t3] C.X.env).length = 3 := by rfl) (hst : (assignEach [t1, t2, t3] C.X.env).findIdx? (·.1) = none := by rfl) : PGk C T (.Tuple [t1, t2, t3] k' pos) d ρ m Φ := by
  obtain ⟨k, e, h1⟩ := h
  exact pgk_tup3 ⟨fun p => k p.1 p.2.1 p.2.2, e, fun a b c => h1 a b c⟩ hc hn hst
theorem pgk_t5 {t1 t2 t3 t4 t5 : Expr} {k' : Nat} {Φ : List Sl → R β → Prop} (h : ∃ k, m = R.opt5 (un5 d) k ∧ ∀ a b c d e, PGsk C T [t1, t2, t3, t4, t5] [a, b, c, d, e] ρ (k a b c d e) Φ) (hc : C.X.calm = true)
    (hn : (assignEach [t1, t2, t3, t4, t5] C.X.env).length = 5 := by rfl) (hst : (assignEach [t1, t2, t3, t4, t5] C.X.env).findIdx? (·.1) = none := by rfl) : PGk C T (.Tuple [t1, t2, t3, t4, t5] k' pos) d ρ m Φ := by
  obtain ⟨k, e, h1⟩ := h
  exact pgk_tup5 ⟨fun p => k p.1 p.2.1 p.2.2.1 p.2.2.2.1 p.2.2.2.2, e, fun a b c d e => h1 a b c d e⟩ hc hn hst
theorem pik_r1 {Φ : List D → List Sl → R β → Prop} (hm : C.X.mg "range" = none) (h : PAk C [a] ρ m fun xs ρ1 m1 => ∃ ds k, allD xs = some ds ∧ m1 = R.opt2 (rg1 ds) k ∧ ∀ i j, Φ (rngD i j) ρ1 (k i j))
    (hg : Gl C.X "range" := by rfl) (hs : starEach [a] C.X.env = [(false, eval a C.X.env)] := by rfl) : PIk C tg (.Call (.Name "range" px) [a] [] pos) ρ m Φ :=
  pik_rng1 hm (fun g σ H Q F S kk => h g σ H Q F S fun xs ρ' F' H' vs ⟨ds, k, e1, e2, h2⟩ S' f r => kk xs ρ' F' H' vs ⟨ds, fun p => k p.1 p.2, e1, e2, h2⟩ S' f r) hg hs
theorem pik_r2 {Φ : List D → List Sl → R β → Prop} (hm : C.X.mg "range" = none) (h : PAk C [a, b] ρ m fun xs ρ1 m1 => ∃ ds k, allD xs = some ds ∧ m1 = R.opt2 (rg2 ds) k ∧ ∀ i j, Φ (rngD i j) ρ1 (k i j))
    (hg : Gl C.X "range" := by rfl) (hs : starEach [a, b] C.X.env = [(false, eval a C.X.env), (false, eval b C.X.env)] := by rfl) (hs2 : starEach [b] C.X.env = [(false, eval b C.X.env)] := by rfl) : PIk C tg (.Call (.Name "range" px) [a, b] [] pos) ρ m Φ :=
  pik_rng2 hm (fun g σ H Q F S kk => h g σ H Q F S fun xs ρ' F' H' vs ⟨ds, k, e1, e2, h2⟩ S' f r => kk xs ρ' F' H' vs ⟨ds, fun p => k p.1 p.2, e1, e2, h2⟩ S' f r) hg hs hs2
theorem pik_imp {Φ Φ' : List D → List Sl → R β → Prop} (h : PIk C tg iter ρ m Φ) (hi : ∀ ds ρ, Φ ds ρ m → Φ' ds ρ m) : PIk C tg iter ρ m Φ' := fun g σ H Rr F S k => h g σ H Rr F S fun ds ρ' F' H' J q => k ds ρ' F' H' J (hi ds ρ' q)
theorem ps1_forK {γ : Type} (T : List Nat) (mk : γ → List Sl) (B : D → γ → R (Ct γ))
    (h : PIk C tg iter ρ m fun ds ρ1 m1 => ∃ c0 k, Wk ρ1 (mk c0) ∧ m1 = R.bind (forL B ds c0) (nxK k) ∧ ∀ c, Ψ.nx (mk c) (k c))
    (hb : ∀ y c, PGk C T tg y (mk c) (B y c) fun ρ2 m2 => PSk C body ρ2 m2 (blkPsi mk)) (hp : PassesOwn (model C.X.prog C.X.w) C.X.A C.X.env C.X.xe) (hc : C.X.calm = true)
    (hs : ∀ x, foldedSetIterable iter C.X.env x = pure x := by intro _; rfl) : PS1 C (.For tg iter body [] pos) ρ m Ψ :=
  ps1_for T mk B (pik_imp h fun ds ρ1 ⟨c0, k, w, e, hk⟩ => ⟨c0, nxK k, w, e, fun c _ => hk c, fun _ _ g => False.elim g⟩) hb hp hc hs
theorem ps1_joinK {γ : Type} (mk : γ → List Sl) {mj : R (Ct γ)} {k : γ → R β} (hm : m = R.bind mj (nxK k))
    (h : PS1 C st ρ mj { nx := (blkPsi mk).nx, rt := (blkPsi mk).rt, bk := (blkPsi mk).bk, ct := fun _ _ => False }) (h1 : ∀ c, Ψ.nx (mk c) (k c)) : PS1 C st ρ m Ψ :=
  ps1_join mk hm h (fun c _ => h1 c) (fun _ _ g => False.elim g) fun _ g => False.elim g
theorem pek_lcK {Φ : Av → List Sl → R β → Prop} {γ : Type} (own : List (Str × Nat)) (mk : γ → List Sl) (B : D → γ → R (D × γ))
    (h : PIk C tg iter ρ m fun ds ρ1 m1 => ∃ c0 k, Wk ρ1 (mk c0) ∧ m1 = R.bind2 (lcL B ds c0 []) k ∧ ∀ ys c, Φ (.o (.ls ys)) (mk c) (k ys c))
    (hb : ∀ s H' Ca cl fp y c, PGk (C.blk s H' scope Ca cl fp) (own.map (·.2)) tg y (mk c) (B y c) fun ρ2 m2 => ∀ s2 H2 Ca2 cl2 fp2, PEk (C.blk s2 H2 scope Ca2 cl2 fp2) elt ρ2 m2 fun x ρ3 m3 => ∃ d c', x = .d d ∧ Wk ρ3 (mk c') ∧ m3 = .ok (d, c'))
    (hno : ∀ c, ∀ j ∈ own.map (·.2), (mk c)[j]? = some .no) (hN : C.X.N.Nodup) (hc : C.X.calm = true) (ok : BlkOk C.X.N C.X.env.scope scope own) (hs : ∀ x, foldedSetIterable iter C.X.env x = pure x := by intro _; rfl) :
    PEk C (.ListComp elt [⟨tg, iter, [], 0⟩] scope pos) ρ m Φ :=
  pek_lc own mk B (pik_imp h fun ds ρ1 ⟨c0, k, w, e, hk⟩ => ⟨c0, fun p => k p.1 p.2, w, e, hk⟩) hb hno hN hc ok hs
theorem ps1_setLcK {γ : Type} (i : Nat) (own : List (Str × Nat)) (mk : γ → List Sl) (B : D → γ → R (D × γ)) {py spos : Pos}
    (h : PIk C tg iter ρ m fun ds ρ1 m1 => ∃ c0 k, Wk ρ1 (mk c0) ∧ m1 = R.bind2 (lcL B ds c0 []) k ∧ ∀ ys c, Ψ.nx ((mk c).set i (.ow none (.ls ys))) (k ys c))
    (hb : ∀ s H' Ca cl fp y c, PGk (C.blk s H' scope Ca cl fp) (own.map (·.2)) tg y (mk c) (B y c) fun ρ2 m2 => ∀ s2 H2 Ca2 cl2 fp2, PEk (C.blk s2 H2 scope Ca2 cl2 fp2) elt ρ2 m2 fun x ρ3 m3 => ∃ d c', x = .d d ∧ Wk ρ3 (mk c') ∧ m3 = .ok (d, c'))
    (hno : ∀ c, ∀ j ∈ own.map (·.2), (mk c)[j]? = some .no) (hN : C.X.N.Nodup) (hc : C.X.calm = true) (ok : BlkOk C.X.N C.X.env.scope scope own)
    (hsw : swapsWith (.ListComp elt [⟨tg, iter, [], 0⟩] scope pos) (some (.Name y py)) spos.line C.X.env = pure true) (hi : C.X.N[i]? = some y := by rfl) (hyl : C.X.env.scope.names.lookup y = some .local := by rfl)
    (hs : ∀ x, foldedSetIterable iter C.X.env x = pure x := by intro _; rfl) :
    PS1 C (.Assign [.Name y py] (.ListComp elt [⟨tg, iter, [], 0⟩] scope pos) spos) ρ m Ψ :=
  ps1_setLc i own mk B (pik_imp h fun ds ρ1 ⟨c0, k, w, e, hk⟩ => ⟨c0, fun p => k p.1 p.2, w, e, hk⟩) hb hno hN hc ok hsw hi hyl hs
end

/-- a test: o tells which of the two -/
def R.ite {β : Type} (o : Option Bool) (x y : R β) : R β := R.opt o fun c => bif c then x else y
def R.bif {β : Type} (o : R Bool) (x y : R β) : R β := R.bind o fun c => bif c then x else y
section
variable {C : Cm} {β : Type} {Ψ : Psi β} {ρ : List Sl} {m m1 m2 : R β} {e : Expr} {sts : List Stmt} {c : Expr}
theorem AfterC.ite {f : D → D → Option Bool} {x y : Av} {dx dy : D} {Φ : Bool → R β → Prop} (e1 : view ρ x = some dx) (e2 : view ρ y = some dy) (e3 : m = R.ite (f dx dy) m1 m2) (h1 : Φ true m1) (h2 : Φ false m2) : AfterC ρ f x y m Φ := ⟨dx, dy, _, e1, e2, e3, h1, h2⟩
theorem AfterN.ite {f : D → Bool} {x : Av} {d : D} {Φ : Bool → R β → Prop} (e1 : view ρ x = some d) (e3 : m = R.ite (some (f d)) m1 m2) (h1 : Φ true m1) (h2 : Φ false m2) : AfterN ρ f x m Φ := ⟨d, fun c => bif c then m1 else m2, e1, e3, h1, h2⟩
theorem AfterT.ite {f : D → Option Bool} {x : Av} {d : D} {Φ : Bool → R β → Prop} (e1 : view ρ x = some d) (e3 : m = R.ite (f d) m1 m2) (h1 : Φ true m1) (h2 : Φ false m2) : AfterT ρ f x m Φ := ⟨d, _, e1, e3, h1, h2⟩
theorem ptk_joinB {Φ : Bool → List Sl → R β → Prop} {mj : R Bool} (hm : m = R.bif mj m1 m2) (h : PTk C c ρ mj fun c' ρ' m' => ρ' = ρ ∧ m' = .ok c') (h1 : Φ true ρ m1) (h2 : Φ false ρ m2) : PTk C c ρ m Φ := ptk_join hm h h1 h2
theorem pek_tt {Φ : Av → List Sl → R β → Prop} (h : PEk C e ρ m1 Φ) : PEk C e ρ (bif true then m1 else m2) Φ := h
theorem pek_ff {Φ : Av → List Sl → R β → Prop} (h : PEk C e ρ m2 Φ) : PEk C e ρ (bif false then m1 else m2) Φ := h
end
end MX

set_option Elab.async false
set_option linter.all false
set_option maxRecDepth 100000
/-! MXMath: the printed functions' parts, computed. -/
namespace MX
open PySem PySem.Spec PyProof.Rows L2

/-! ### the way of a printed function -/
theorem bind_ok {α β : Type} {a : α} {f : α → R β} : R.bind (.ok a) f = f a := rfl
theorem bind2_ok {α1 α2 β : Type} {a : α1} {b : α2} {f : α1 → α2 → R β} : R.bind2 (.ok (a, b)) f = f a b := rfl
theorem opt_some {α β : Type} {a : α} {f : α → R β} : R.opt (some a) f = f a := rfl
theorem opt2_some {α1 α2 β : Type} {a : α1} {b : α2} {f : α1 → α2 → R β} : R.opt2 (some (a, b)) f = f a b := rfl
theorem opt3_some {α1 α2 α3 β : Type} {a : α1} {b : α2} {c : α3} {f : α1 → α2 → α3 → R β} : R.opt3 (some (a, b, c)) f = f a b c := rfl
theorem opt5_some {α1 α2 α3 α4 α5 β : Type} {a : α1} {b : α2} {c : α3} {d : α4} {e : α5} {f : α1 → α2 → α3 → α4 → α5 → R β} : R.opt5 (some (a, b, c, d, e)) f = f a b c d e := rfl
theorem ite_t {β : Type} {x y : R β} : R.ite (some true) x y = x := rfl
theorem ite_f {β : Type} {x y : R β} : R.ite (some false) x y = y := rfl
theorem bif_t {β : Type} {x y : R β} : R.bif (.ok true) x y = x := rfl
theorem bif_f {β : Type} {x y : R β} : R.bif (.ok false) x y = y := rfl
theorem nxK_nx {γ β : Type} {k : γ → R β} {c : γ} : nxK k (.nx c) = k c := rfl
/-! ### operations -/
theorem add_i {a b : Int} : addD (.int a) (.int b) = some (.int (a + b)) := rfl
theorem sub_i {a b : Int} : subD (.int a) (.int b) = some (.int (a - b)) := rfl
theorem add_l {a b : List D} (h : a.length + b.length ≤ sizeLine) : addD (.list a) (.list b) = some (.list (a ++ b)) := if_pos h
theorem add_t {a b : List D} (h : a.length + b.length ≤ sizeLine) : addD (.tuple a) (.tuple b) = some (.tuple (a ++ b)) := if_pos h
theorem add_s {a b : Str} (h : a.length + b.length ≤ sizeLine) : addD (.str a) (.str b) = some (.str (a ++ b)) := if_pos h
theorem len_t {a : List D} : lenD [.tuple a] = some (.int a.length) := rfl
theorem len_l {a : List D} : lenD [.list a] = some (.int a.length) := rfl
theorem len_s {a : Str} (h : a.length ≤ sizeLine) : lenD [.str a] = some (.int a.length) := if_pos h
theorem ap_ok {a : List D} {d : D} (h : a.length < sizeLine) : apD a d = some (a ++ [d]) := if_pos h
theorem ex_l {a b : List D} (h : a.length + b.length ≤ sizeLine) : exD a (.list b) = some (a ++ b) := if_pos h
theorem ex_t {a b : List D} (h : a.length + b.length ≤ sizeLine) : exD a (.tuple b) = some (a ++ b) := if_pos h
theorem seq_t {a : List D} : seqD (.tuple a) = some a := rfl
theorem seq_l {a : List D} : seqD (.list a) = some a := rfl
theorem list_l {a : List D} : listD (.list a) = some a := rfl
theorem list_t {a : List D} : listD (.tuple a) = some a := rfl
theorem tup_l {a : List D} : tupleD [.list a] = some (.tuple a) := rfl
theorem int_i {a : Int} : intD [.int a] = some (.int a) := rfl
theorem int_b {a : Bool} : intD [.bool a] = some (.int (if a then 1 else 0)) := rfl
theorem fdiv_i {a b : Int} (h : 0 < b ∧ b < 1073741824) : fdivD (.int a) (.int b) = some (.int (a / b)) := if_pos h
theorem mod_i {a b : Int} (h : 0 < b) : modD (.int a) (.int b) = some (.int (a % b)) := if_pos h
theorem mul_i {a b : Int} (h : (-(2 ^ 64) < a ∧ a < 2 ^ 64) ∨ (-(2 ^ 64) < b ∧ b < 2 ^ 64)) : mulD (.int a) (.int b) = some (.int (a * b)) := if_pos h
theorem sIx_nat {n d v : Nat} : HT.sIx n d (some (v : Int)) = min v n := by
  show (if (v : Int) < 0 then ((v : Int) + n).toNat else min (v : Int).toNat n) = _
  rw [if_neg (by omega)]
  rfl
theorem asInt_i {a : Int} : asInt (.int a) = some a := rfl
theorem tru_b {a : Bool} : truD (.bool a) = some a := rfl
theorem ix_t {a : List D} {n : Nat} {d : D} (h : a[n]? = some d) : ixD (.tuple a) (.int n) = some d := by
  show atI a n = some d
  unfold atI ixN
  have hl : n < a.length := (List.getElem?_eq_some_iff.mp h).1
  rw [if_pos (by omega), if_pos (by omega)]
  simpa using h
theorem ix_l {a : List D} {n : Nat} {d : D} (h : a[n]? = some d) : ixD (.list a) (.int n) = some d := ix_t h
theorem ix_ti {a : List D} {i : Int} {d : D} (h0 : 0 ≤ i) (h : a[i.toNat]? = some d) : ixD (.tuple a) (.int i) = some d := by
  have e : i = (i.toNat : Int) := by omega
  rw [e]
  exact ix_t (by simpa using h)
theorem ix_li {a : List D} {i : Int} {d : D} (h0 : 0 ≤ i) (h : a[i.toNat]? = some d) : ixD (.list a) (.int i) = some d := ix_ti h0 h
theorem ix_s {x : Str} {n c : Nat} (hz : x.length ≤ sizeLine) (h : x.cps.toList[n]? = some c) : ixD (.str x) (.int n) = some (.str ⟨#[c]⟩) := by
  show (if x.length ≤ sizeLine then _ else none) = _
  rw [if_pos hz]
  unfold atI ixN
  have hl : n < x.cps.toList.length := (List.getElem?_eq_some_iff.mp h).1
  rw [if_pos (by omega), if_pos (by omega)]
  simp only [Option.bind_some, Int.toNat_natCast, h]
  rfl
theorem un2_t {a b : D} : un2 (.tuple [a, b]) = some (a, b) := rfl
theorem un3_t {a b c : D} : un3 (.tuple [a, b, c]) = some (a, b, c) := rfl
theorem un5_t {a b c d e : D} : un5 (.tuple [a, b, c, d, e]) = some (a, b, c, d, e) := rfl
theorem eq_i {a b : Int} : eqD (.int a) (.int b) = some (a == b) := rfl
theorem eq_s {a b : Str} : eqD (.str a) (.str b) = some (a == b) := rfl
theorem rg1_ok {j : Int} (h : -(2 ^ 62) ≤ j ∧ j < 2 ^ 62) : rg1 [.int j] = some (0, j) := if_pos h
theorem rg2_ok {i j : Int} (h : -(2 ^ 62) ≤ i ∧ i < 2 ^ 62 ∧ -(2 ^ 62) ≤ j ∧ j < 2 ^ 62) : rg2 [.int i, .int j] = some (i, j) := if_pos h
theorem rng_len {i j : Int} : (rngD i j).length = (j - i).toNat := by simp [rngD]
theorem rng_get {i j : Int} {n : Nat} (h : n < (j - i).toNat) : (rngD i j)[n]? = some (.int (i + n)) := by
  unfold rngD
  rw [List.getElem?_map, List.getElem?_range h]
  rfl
theorem big : (1000000 : Nat) ≤ sizeLine := by rw [sizeLine_eq]; omega

/-! ### lists -/
inductive All2 {α β : Type} (P : α → β → Prop) : List α → List β → Prop
  | nil : All2 P [] []
  | cons {a : α} {b : β} {as : List α} {bs : List β} : P a b → All2 P as bs → All2 P (a :: as) (b :: bs)
theorem All2.length {α β : Type} {P : α → β → Prop} {as : List α} {bs : List β} (h : All2 P as bs) : as.length = bs.length := by
  induction h with
  | nil => rfl
  | cons _ _ ih => rw [List.length_cons, List.length_cons, ih]
theorem All2.append {α β : Type} {P : α → β → Prop} {as cs : List α} {bs ds : List β} (h : All2 P as bs) (g : All2 P cs ds) : All2 P (as ++ cs) (bs ++ ds) := by
  induction h with
  | nil => exact g
  | cons p _ ih => exact .cons p ih
theorem All2.imp {α β : Type} {P Q : α → β → Prop} (f : ∀ a b, P a b → Q a b) {as : List α} {bs : List β} (h : All2 P as bs) : All2 Q as bs := by
  induction h with
  | nil => exact .nil
  | cons p _ ih => exact .cons (f _ _ p) ih
theorem All2.snoc {α β : Type} {P : α → β → Prop} {as : List α} {bs : List β} {a : α} {b : β} (h : All2 P as bs) (p : P a b) : All2 P (as ++ [a]) (bs ++ [b]) := h.append (.cons p .nil)
def I (ns : List Int) : List D := ns.map .int
theorem I_len (ns : List Int) : (I ns).length = ns.length := List.length_map _
theorem I_app (a b : List Int) : I a ++ I b = I (a ++ b) := (List.map_append ..).symm
theorem I_cons (a : Int) (b : List Int) : I (a :: b) = .int a :: I b := rfl

/-- a writing loop -/
theorem for_wr {P : D → List Int → Prop} {B : D → List D → R (Ct (List D))} {cap : Nat}
    (hB : ∀ d cs f, P d cs → f.length + cs.length ≤ cap → B d f = .ok (.nx (f ++ I cs))) {ds : List D} {rows : List (List Int)} (h : All2 P ds rows) : ∀ f : List D, f.length + rows.flatten.length ≤ cap → forL B ds f = .ok (.nx (f ++ I rows.flatten)) := by
  induction h with
  | nil => intro f _; simp [forL, I]
  | cons p t ih =>
    rename_i d cs ds rows
    intro f hf
    rw [List.flatten_cons, List.length_append] at hf
    show R.bind (B d f) _ = _
    rw [hB d cs f p (by omega)]
    show forL B ds (f ++ I cs) = _
    rw [ih (f ++ I cs) (by rw [List.length_append, I_len]; omega), List.flatten_cons, ← I_app, List.append_assoc]
/-- a comprehension of rows -/
theorem lc_wr {P : D → List Int → Prop} {B : D → Unit → R (D × Unit)} (hB : ∀ d cs, P d cs → B d () = .ok (.list (I cs), ())) {ds : List D} {rows : List (List Int)} (h : All2 P ds rows) : ∀ acc : List D, acc.length + ds.length ≤ sizeLine →
    lcL B ds () acc = .ok (acc ++ rows.map (fun r => .list (I r)), ()) := by
  induction h with
  | nil => intro acc _; simp [lcL]
  | cons p t ih =>
    rename_i d cs ds rows
    intro acc hf
    rw [List.length_cons] at hf
    show R.bind (noX (B d ())) _ = _
    rw [hB d cs p]
    show (if acc.length < sizeLine then lcL B ds () (acc ++ [.list (I cs)]) else .stuck) = _
    rw [if_pos (by omega)]
    refine (ih (acc ++ [.list (I cs)]) (by rw [List.length_append, List.length_singleton]; omega)).trans ?_
    rw [List.append_assoc]
    rfl
/-- a loop that appends rows -/
theorem for_rows {P : D → List Int → Prop} {B : D → List D → R (Ct (List D))} (hB : ∀ d cs f, P d cs → f.length < sizeLine → B d f = .ok (.nx (f ++ [.list (I cs)]))) {ds : List D} {rows : List (List Int)} (h : All2 P ds rows) : ∀ acc : List D, acc.length + ds.length ≤ sizeLine →
    forL B ds acc = .ok (.nx (acc ++ rows.map (fun r => .list (I r)))) := by
  induction h with
  | nil => intro acc _; simp [forL]
  | cons p t ih =>
    rename_i d cs ds rows
    intro acc hf
    rw [List.length_cons] at hf
    show R.bind (B d acc) _ = _
    rw [hB d cs acc p (by omega)]
    show forL B ds (acc ++ [.list (I cs)]) = _
    refine (ih (acc ++ [.list (I cs)]) (by rw [List.length_append, List.length_singleton]; omega)).trans ?_
    rw [List.append_assoc]
    rfl

/-! ### reading -/
def T (ns : List Int) : D := .tuple (I ns)
/-- at place p of ns stand the numbers cs -/
def Rd (ns : List Int) (p : Nat) (cs : List Int) : Prop := ∃ post, ns.drop p = cs ++ post
theorem Rd.left {ns : List Int} {p : Nat} {a b : List Int} (h : Rd ns p (a ++ b)) : Rd ns p a := by
  obtain ⟨post, e⟩ := h
  exact ⟨b ++ post, by rw [e, List.append_assoc]⟩
theorem Rd.right {ns : List Int} {p : Nat} {a b : List Int} (h : Rd ns p (a ++ b)) : Rd ns (p + a.length) b := by
  obtain ⟨post, e⟩ := h
  refine ⟨post, ?_⟩
  rw [← List.drop_drop, e, List.append_assoc, List.drop_left]
theorem Rd.hd {ns : List Int} {p : Nat} {c : Int} {b : List Int} (h : Rd ns p (c :: b)) : ns[p]? = some c := by
  obtain ⟨post, e⟩ := h
  have : (ns.drop p)[0]? = some c := by rw [e]; rfl
  rw [List.getElem?_drop] at this
  exact this
theorem Rd.tl {ns : List Int} {p : Nat} {c : Int} {b : List Int} (h : Rd ns p (c :: b)) : Rd ns (p + 1) b := Rd.right (a := [c]) h
theorem Rd.get {ns : List Int} {p : Nat} {cs : List Int} (h : Rd ns p cs) {i : Nat} {c : Int} (e : cs[i]? = some c) : ns[p + i]? = some c := by
  obtain ⟨post, q⟩ := h
  have : (ns.drop p)[i]? = some c := by
    rw [q, List.getElem?_append_left (List.getElem?_eq_some_iff.mp e).1]
    exact e
  rw [List.getElem?_drop] at this
  exact this
/-- a reading loop: st p acc is the state at place p with acc read -/
theorem for_rd {γ : Type} {B : D → γ → R (Ct γ)} {st : Nat → List D → γ} {P : D → List Int → Prop} {ns : List Int} {cap : Nat}
    (hB : ∀ y d cs p acc, P d cs → Rd ns p cs → acc.length < cap → B y (st p acc) = .ok (.nx (st (p + cs.length) (acc ++ [d])))) {ds : List D} {rows : List (List Int)} (h : All2 P ds rows) :
    ∀ (ys : List D) (p : Nat) (acc : List D), ys.length = ds.length → acc.length + ds.length ≤ cap → Rd ns p rows.flatten → forL B ys (st p acc) = .ok (.nx (st (p + rows.flatten.length) (acc ++ ds))) := by
  induction h with
  | nil =>
    intro ys p acc hy _ _
    rw [List.length_nil] at hy
    rw [List.eq_nil_of_length_eq_zero hy]
    simp [forL]
  | cons q t ih =>
    rename_i d cs ds rows
    intro ys p acc hy hc hr
    match ys, hy with
    | y :: ys, hy =>
      rw [List.length_cons] at hy hc
      rw [List.length_cons] at hy
      rw [List.flatten_cons] at hr
      show R.bind (B y (st p acc)) _ = _
      rw [hB y d cs p acc q hr.left (by omega)]
      show forL B ys (st (p + cs.length) (acc ++ [d])) = _
      rw [ih ys (p + cs.length) (acc ++ [d]) (by omega) (by rw [List.length_append, List.length_singleton]; omega) hr.right, List.flatten_cons, List.length_append, List.append_assoc, Nat.add_assoc]
      rfl
/-- a drawing comprehension: J holds of the tape, P of what is drawn -/
theorem lc_draw {γ : Type} {B : D → γ → R (D × γ)} {J : γ → Prop} {P : D → List Int → Prop} {N : Nat} (hB : ∀ y c, J c → ∃ d c', B y c = .ok (d, c') ∧ J c' ∧ ∃ cs, P d cs ∧ cs.length ≤ N) :
    ∀ (ys : List D) (c : γ) (acc : List D), J c → acc.length + ys.length ≤ sizeLine → ∃ ds c', lcL B ys c acc = .ok (acc ++ ds, c') ∧ J c' ∧ ds.length = ys.length ∧ ∃ rows, All2 P ds rows ∧ rows.flatten.length ≤ N * ys.length
  | [], c, acc, hc, _ => ⟨[], c, by simp [lcL], hc, rfl, [], .nil, by simp⟩
  | y :: ys, c, acc, hc, hl => by
    rw [List.length_cons] at hl
    obtain ⟨d, c1, e1, j1, cs, p1, l1⟩ := hB y c hc
    obtain ⟨ds, c2, e2, j2, hn, rows, p2, l2⟩ := lc_draw hB ys c1 (acc ++ [d]) j1 (by rw [List.length_append, List.length_singleton]; omega)
    refine ⟨d :: ds, c2, ?_, j2, by rw [List.length_cons, List.length_cons, hn], cs :: rows, .cons p1 p2, ?_⟩
    · show R.bind (noX (B y c)) _ = _
      rw [e1]
      show (if acc.length < sizeLine then lcL B ys c1 (acc ++ [d]) else .stuck) = _
      rw [if_pos (by omega), e2, List.append_assoc]
      rfl
    · rw [List.flatten_cons, List.length_append, List.length_cons, Nat.mul_succ]
      omega
/-- .. a loop that draws and appends -/
theorem for_draw {γ : Type} {B : D → γ → R (Ct γ)} {st : γ → List D → γ} {J : γ → List D → Prop} {P : D → List Int → Prop} {N : Nat} (hB : ∀ y c acc, J c acc → acc.length < 1000 → ∃ d c', B y c = .ok (.nx c') ∧ J c' (acc ++ [d]) ∧ ∃ cs, P d cs ∧ cs.length ≤ N) :
    ∀ (ys : List D) (c : γ) (acc : List D), J c acc → acc.length + ys.length ≤ 1000 → ∃ ds c', forL B ys c = .ok (.nx c') ∧ J c' (acc ++ ds) ∧ ds.length = ys.length ∧ ∃ rows, All2 P ds rows ∧ rows.flatten.length ≤ N * ys.length
  | [], c, acc, hc, _ => ⟨[], c, rfl, by simpa using hc, rfl, [], .nil, by simp⟩
  | y :: ys, c, acc, hc, hl => by
    rw [List.length_cons] at hl
    obtain ⟨d, c1, e1, j1, cs, p1, l1⟩ := hB y c acc hc (by omega)
    obtain ⟨ds, c2, e2, j2, hn, rows, p2, l2⟩ := for_draw (st := st) hB ys c1 (acc ++ [d]) j1 (by rw [List.length_append, List.length_singleton]; omega)
    refine ⟨d :: ds, c2, ?_, by rw [List.append_assoc] at j2; exact j2, by rw [List.length_cons, List.length_cons, hn], cs :: rows, .cons p1 p2, ?_⟩
    · show R.bind (B y c) _ = _
      rw [e1]
      exact e2
    · rw [List.flatten_cons, List.length_append, List.length_cons, Nat.mul_succ]
      omega

/-! ### what repr and == ask of data -/
mutual
inductive Pl : Nat → D → Nat → Prop
  | none {k n : Nat} : 4 ≤ n → Pl k .none n
  | bool {k n : Nat} {b : Bool} : 5 ≤ n → Pl k (.bool b) n
  | int {k n : Nat} {i : Int} : i.natAbs < 10 ^ 5 → 6 ≤ n → Pl k (.int i) n
  | str {k n : Nat} {x : Str} : (∀ c ∈ x.cps.toList, c < 1114112) → 10 * x.length + 2 ≤ n → Pl k (.str x) n
  | tup {k n m : Nat} {ds : List D} : PlA k ds n → n + 3 ≤ m → Pl (k + 1) (.tuple ds) m
inductive PlA : Nat → List D → Nat → Prop
  | nil {k n : Nat} : PlA k [] n
  | cons {k a b n : Nat} {d : D} {ds : List D} : Pl k d a → PlA k ds b → a + 2 + b ≤ n → PlA k (d :: ds) n
end
theorem join_le (ts : List Str) : (Str.join ", " ts).length ≤ (ts.map fun t => t.length + 2).sum := by
  induction ts with
  | nil => exact Nat.zero_le _
  | cons t r ih =>
    cases r with
    | nil => simp [Str.join]
    | cons u r =>
      show (t ++ (", " : Str) ++ Str.join ", " (u :: r)).length ≤ _
      have e : (", " : Str).length = 2 := by rw [PySem.ofString_length]; rfl
      rw [strLen_append, strLen_append, e, List.map_cons, List.sum_cons]
      omega
theorem tupText_le (ts : List Str) : (tupleText ts).length ≤ (ts.map fun t => t.length + 2).sum + 3 := by
  have h := join_le ts
  have e1 : ("(" : Str).length = 1 := by rw [PySem.ofString_length]; rfl
  have e2 : ∀ b : Bool, (Str.ofString (if b = true then ",)" else ")" : String)).length ≤ 2 := fun b => by
    rw [PySem.ofString_length]
    cases b <;> decide
  unfold tupleText
  rw [strLen_append, strLen_append, e1]
  have := e2 (ts.length == 1)
  omega
mutual
theorem Pl.facts : ∀ {k : Nat} {d : D} {n : Nat}, Pl k d n → d.showable = true ∧ d.hasDict = false ∧ d.canLay0 = true ∧ d.depth ≤ k ∧ d.shown.length ≤ n
  | k, _, _, .none h => ⟨by simp [PyData.showable], by simp [PyData.hasDict], by simp [PyData.canLay0], by simp [PyData.depth], by
      rw [show (PyData.none).shown.length = 4 by simp only [PyData.shown]; rw [PySem.ofString_length]; rfl]; exact h⟩
  | k, _, _, .bool (b := b) h => ⟨by simp [PyData.showable], by simp [PyData.hasDict], by simp [PyData.canLay0], by simp [PyData.depth], by
      refine Nat.le_trans ?_ h
      simp only [PyData.shown]
      cases b
      · show (Str.ofString "False").length ≤ 5
        rw [PySem.ofString_length]; decide
      · show (Str.ofString "True").length ≤ 5
        rw [PySem.ofString_length]; decide⟩
  | k, _, _, .int (i := i) hi h => ⟨by
      simp only [PyData.showable, decide_eq_true_eq]
      by_cases h0 : i.natAbs = 0
      · rw [h0]; decide
      · exact (Nat.log2_lt h0).mpr (Nat.lt_of_lt_of_le hi (Nat.le_trans (by decide : 10 ^ 5 ≤ 2 ^ 17) (Nat.pow_le_pow_right (n := 2) (by decide) (by decide : 17 ≤ 1920)))), by simp [PyData.hasDict], by simp [PyData.canLay0], by simp [PyData.depth], by
      simp only [PyData.shown]
      rw [PySem.ofString_length]
      exact Nat.le_trans (int_text_length_le10 (k := 5) (by decide) hi) h⟩
  | k, _, _, .str (x := x) hx h => ⟨by simp [PyData.showable], by simp [PyData.hasDict], by
      simp only [PyData.canLay0, PyData.strOk, Array.all_eq_true', decide_eq_true_eq]
      intro c hc
      exact hx c (Array.mem_toList_iff.mpr hc), by simp [PyData.depth], by
      simp only [PyData.shown]
      exact Nat.le_trans (StrLaws.reprText_len x fun c hc => Nat.lt_of_lt_of_le (hx c hc) (by decide)) h⟩
  | _, _, _, .tup (k := k) (n := n) (ds := ds) ha h => by
    obtain ⟨h1, h2, h3, h4, h5⟩ := ha.facts
    refine ⟨by simp only [PyData.showable]; exact h1, by simp only [PyData.hasDict]; exact h2, by simp only [PyData.canLay0]; exact h3, by simp only [PyData.depth]; omega, ?_⟩
    simp only [PyData.shown]
    exact Nat.le_trans (tupText_le _) (by omega)
theorem PlA.facts : ∀ {k : Nat} {ds : List D} {n : Nat}, PlA k ds n → PyData.showableAll ds = true ∧ PyData.hasDictAll ds = false ∧ PyData.canLayAll0 ds = true ∧ PyData.depthAll ds ≤ k ∧ ((PyData.shownAll ds).map fun t => t.length + 2).sum ≤ n
  | _, _, _, .nil => ⟨by simp [PyData.showableAll], by simp [PyData.hasDictAll], by simp [PyData.canLayAll0], by simp [PyData.depthAll], by simp [PyData.shownAll]⟩
  | _, _, _, .cons p q h => by
    obtain ⟨h1, h2, h3, h4, h5⟩ := p.facts
    obtain ⟨g1, g2, g3, g4, g5⟩ := q.facts
    refine ⟨by simp only [PyData.showableAll, h1, g1]; rfl, by simp only [PyData.hasDictAll, h2, g2]; rfl, by simp only [PyData.canLayAll0, h3, g3]; rfl, by simp only [PyData.depthAll]; omega, ?_⟩
    simp only [PyData.shownAll, List.map_cons, List.sum_cons]
    omega
end
end MX

set_option Elab.async false
set_option linter.all false
set_option maxRecDepth 100000
set_option maxHeartbeats 1000000
namespace MX
open PySem PySem.Spec PyProof.Rows L2
def top (i : Nat) : Stmt := PySem.Challenge.pw_openrules_k97_written_and_read.main.body.getD i (.Pass ⟨0, 0, 0, 0⟩)
def cMAGIC : D := .tuple [.int 79, .int 82, .int 77, .int 49]
def cSMALL : D := .str "abcdefghijklmnopqrstuvwxyz"
def cGREAT : D := .str "ABCDEFGHIJKLMNOPQRSTUVWXYZ"
def cDIGITS : D := .str "0123456789"
def cSTEP_WORDS : D := .tuple [.str "", .str "done", .str "rule", .str "apply", .str "invert"]
def cSTEP_KINDS : List (Str × D) := [("done", .int 1), ("rule", .int 2), ("apply", .int 3), ("invert", .int 4)]
structure Bl (K : PySem.W.Frag) (w : World) (mg : Str → Option Value) : Prop where
  len : mg "len" = none
  ord : mg "ord" = none
  abs : mg "abs" = none
  max : mg "max" = none
  repr : mg "repr" = none
  int : mg "int" = none
  tuple : mg "tuple" = none
  list : mg "list" = none
  str : mg "str" = none
  range : mg "range" = none
  isinstance : mg "isinstance" = none
  c_MAGIC : Cst K mg "MAGIC" cMAGIC
  c_SMALL : Cst K mg "SMALL" cSMALL
  c_GREAT : Cst K mg "GREAT" cGREAT
  c_DIGITS : Cst K mg "DIGITS" cDIGITS
  c_STEP_WORDS : Cst K mg "STEP_WORDS" cSTEP_WORDS
  c_MOST_SIGNS : Cst K mg "MOST_SIGNS" (.int 16)
  c_MOST_PLACES : Cst K mg "MOST_PLACES" (.int 9)
  c_MOST_TERM_DEPTH : Cst K mg "MOST_TERM_DEPTH" (.int 20)
  c_MOST_ARGUMENT_DEPTH : Cst K mg "MOST_ARGUMENT_DEPTH" (.int 60)
  c_MOST : Cst K mg "MOST" (.int 255)
  c_STEP_KINDS : DCst K w mg "STEP_KINDS" cSTEP_KINDS
section
variable {P : Program} {w : World} {K : PySem.W.Frag} {mg : Str → Option Value} {base : Heap}

/-! ### write_name -/
abbrev s_write_name : Stmt := top 3
abbrev N_write_name : List Str := ["name", "found", "sign"]
abbrev P_write_name : List Str := ["name", "found"]
def ea_write_name (a : D × List D) : List Ag := [.d a.1, .w (.ls a.2)]
/-! ### write_term -/
abbrev s_write_term : Stmt := top 4
abbrev N_write_term : List Str := ["term", "found", "argument"]
abbrev P_write_term : List Str := ["term", "found"]
def ea_write_term (a : D × List D) : List Ag := [.d a.1, .w (.ls a.2)]
/-! ### write_terms -/
abbrev s_write_terms : Stmt := top 5
abbrev N_write_terms : List Str := ["terms", "found", "term"]
abbrev P_write_terms : List Str := ["terms", "found"]
def ea_write_terms (a : D × List D) : List Ag := [.d a.1, .w (.ls a.2)]
/-! ### write_numbers -/
abbrev s_write_numbers : Stmt := top 6
abbrev N_write_numbers : List Str := ["numbers", "found"]
abbrev P_write_numbers : List Str := ["numbers", "found"]
def ea_write_numbers (a : D × List D) : List Ag := [.d a.1, .w (.ls a.2)]
/-! ### write_rules -/
abbrev s_write_rules : Stmt := top 7
abbrev N_write_rules : List Str := ["rules", "found", "name", "premises", "conclusion"]
abbrev P_write_rules : List Str := ["rules", "found"]
def ea_write_rules (a : D × List D) : List Ag := [.d a.1, .w (.ls a.2)]
/-! ### write_claim -/
abbrev s_write_claim : Stmt := top 8
abbrev N_write_claim : List Str := ["claim", "found", "name", "statement", "induction", "disjunct"]
abbrev P_write_claim : List Str := ["claim", "found"]
def ea_write_claim (a : D × List D) : List Ag := [.d a.1, .w (.ls a.2)]
/-! ### write_blocks -/
abbrev s_write_blocks : Stmt := top 9
abbrev N_write_blocks : List Str := ["blocks", "found", "is_open", "claims", "claim"]
abbrev P_write_blocks : List Str := ["blocks", "found"]
def ea_write_blocks (a : D × List D) : List Ag := [.d a.1, .w (.ls a.2)]
/-! ### write_step -/
abbrev s_write_step : Stmt := top 10
abbrev N_write_step : List Str := ["step", "found"]
abbrev P_write_step : List Str := ["step", "found"]
def ea_write_step (a : D × List D) : List Ag := [.d a.1, .w (.ls a.2)]
/-! ### write_argument -/
abbrev s_write_argument : Stmt := top 11
abbrev N_write_argument : List Str := ["argument", "found", "step", "parts", "label", "part"]
abbrev P_write_argument : List Str := ["argument", "found"]
def ea_write_argument (a : D × List D) : List Ag := [.d a.1, .w (.ls a.2)]
/-! ### write_entries -/
abbrev s_write_entries : Stmt := top 12
abbrev N_write_entries : List Str := ["entries", "found", "claim", "rule", "argument"]
abbrev P_write_entries : List Str := ["entries", "found"]
def ea_write_entries (a : D × List D) : List Ag := [.d a.1, .w (.ls a.2)]
/-! ### numbers_of -/
abbrev s_numbers_of : Stmt := top 13
abbrev N_numbers_of : List Str := ["parts", "name", "imports", "rules", "blocks", "entries", "found", "other"]
abbrev P_numbers_of : List Str := ["parts"]
def ea_numbers_of (a : D) : List Ag := [.d a]
/-! ### number_at -/
abbrev s_number_at : Stmt := top 27
abbrev N_number_at : List Str := ["numbers", "place", "least", "most"]
abbrev P_number_at : List Str := ["numbers", "place", "least", "most"]
def ea_number_at (a : D × D × D × D) : List Ag := [.d a.1, .d a.2.1, .d a.2.2.1, .d a.2.2.2]
/-! ### sign_at -/
abbrev s_sign_at : Stmt := top 28
abbrev N_sign_at : List Str := ["numbers", "place", "code"]
abbrev P_sign_at : List Str := ["numbers", "place"]
def ea_sign_at (a : D × D) : List Ag := [.d a.1, .d a.2]
/-! ### read_name -/
abbrev s_read_name : Stmt := top 29
abbrev N_read_name : List Str := ["numbers", "place", "length", "name", "k"]
abbrev P_read_name : List Str := ["numbers", "place"]
def ea_read_name (a : D × D) : List Ag := [.d a.1, .d a.2]
/-! ### read_arguments -/
abbrev s_read_arguments : Stmt := top 30
abbrev N_read_arguments : List Str := ["numbers", "place", "term", "count", "depth", "_", "argument"]
abbrev P_read_arguments : List Str := ["numbers", "place", "term", "count", "depth"]
def ea_read_arguments (a : D × D × D × D × D) : List Ag := [.d a.1, .d a.2.1, .d a.2.2.1, .d a.2.2.2.1, .d a.2.2.2.2]
/-! ### read_term -/
abbrev s_read_term : Stmt := top 31
abbrev N_read_term : List Str := ["numbers", "place", "depth", "most", "count", "high", "low", "name"]
abbrev P_read_term : List Str := ["numbers", "place", "depth"]
def ea_read_term (a : D × D × D) : List Ag := [.d a.1, .d a.2.1, .d a.2.2]
/-! ### read_atom -/
abbrev s_read_atom : Stmt := top 32
abbrev N_read_atom : List Str := ["numbers", "place", "count", "name"]
abbrev P_read_atom : List Str := ["numbers", "place"]
def ea_read_atom (a : D × D) : List Ag := [.d a.1, .d a.2]
/-! ### read_terms -/
abbrev s_read_terms : Stmt := top 33
abbrev N_read_terms : List Str := ["numbers", "place", "count"]
abbrev P_read_terms : List Str := ["numbers", "place"]
def ea_read_terms (a : D × D) : List Ag := [.d a.1, .d a.2]
/-! ### read_atoms -/
abbrev s_read_atoms : Stmt := top 34
abbrev N_read_atoms : List Str := ["numbers", "place", "count", "found", "_", "atom"]
abbrev P_read_atoms : List Str := ["numbers", "place"]
def ea_read_atoms (a : D × D) : List Ag := [.d a.1, .d a.2]
/-! ### read_numbers -/
abbrev s_read_numbers : Stmt := top 35
abbrev N_read_numbers : List Str := ["numbers", "place", "count", "found", "k"]
abbrev P_read_numbers : List Str := ["numbers", "place"]
def ea_read_numbers (a : D × D) : List Ag := [.d a.1, .d a.2]
/-! ### read_rule -/
abbrev s_read_rule : Stmt := top 36
abbrev N_read_rule : List Str := ["numbers", "place", "name", "premises", "conclusion"]
abbrev P_read_rule : List Str := ["numbers", "place"]
def ea_read_rule (a : D × D) : List Ag := [.d a.1, .d a.2]
/-! ### read_claim -/
abbrev s_read_claim : Stmt := top 37
abbrev N_read_claim : List Str := ["numbers", "place", "name", "universals", "premises", "count", "disjuncts", "_", "disjunct", "induction"]
abbrev P_read_claim : List Str := ["numbers", "place"]
def ea_read_claim (a : D × D) : List Ag := [.d a.1, .d a.2]
/-! ### read_block -/
abbrev s_read_block : Stmt := top 38
abbrev N_read_block : List Str := ["numbers", "place", "is_open", "count", "claims", "_", "claim"]
abbrev P_read_block : List Str := ["numbers", "place"]
def ea_read_block (a : D × D) : List Ag := [.d a.1, .d a.2]
/-! ### read_step -/
abbrev s_read_step : Stmt := top 39
abbrev N_read_step : List Str := ["numbers", "place", "word", "disjunct", "terms", "name", "hypotheses"]
abbrev P_read_step : List Str := ["numbers", "place"]
def ea_read_step (a : D × D) : List Ag := [.d a.1, .d a.2]
/-! ### read_label -/
abbrev s_read_label : Stmt := top 40
abbrev N_read_label : List Str := ["numbers", "place"]
abbrev P_read_label : List Str := ["numbers", "place"]
def ea_read_label (a : D × D) : List Ag := [.d a.1, .d a.2]
/-! ### read_argument -/
abbrev s_read_argument : Stmt := top 41
abbrev N_read_argument : List Str := ["numbers", "place", "depth", "step", "most", "count", "parts", "_", "label", "part"]
abbrev P_read_argument : List Str := ["numbers", "place", "depth"]
def ea_read_argument (a : D × D × D) : List Ag := [.d a.1, .d a.2.1, .d a.2.2]
/-! ### read_entry -/
abbrev s_read_entry : Stmt := top 42
abbrev N_read_entry : List Str := ["numbers", "place", "claim", "rule", "argument"]
abbrev P_read_entry : List Str := ["numbers", "place"]
def ea_read_entry (a : D × D) : List Ag := [.d a.1, .d a.2]
/-! ### read_rows -/
abbrev s_read_rows : Stmt := top 43
abbrev N_read_rows : List Str := ["numbers", "place", "read", "count", "found", "_", "row"]
abbrev P_read_rows : List Str := ["numbers", "place", "read"]
def ea_read_rows (y_read : Str) (a : D × D) : List Ag := [.d a.1, .d a.2, .f y_read]
/-! ### parts_of -/
abbrev s_parts_of : Stmt := top 44
abbrev N_parts_of : List Str := ["numbers", "k", "name", "place", "imports", "rules", "blocks", "entries"]
abbrev P_parts_of : List Str := ["numbers"]
def ea_parts_of (a : D) : List Ag := [.d a]
/-! ### _law_draw -/
abbrev s__law_draw : Stmt := top 61
abbrev N__law_draw : List Str := ["_law_tape_here", "_law_many", "_law_place", "_law_number"]
abbrev P__law_draw : List Str := ["_law_tape_here", "_law_many"]
def ea__law_draw (a : List D × D) : List Ag := [.w (.ls a.1), .d a.2]
/-! ### _law_word -/
abbrev s__law_word : Stmt := top 62
abbrev N__law_word : List Str := ["_law_tape_here", "_law_stem", "_law_letters", "_law_signs", "_law_number", "_law_word_here", "_law_length"]
abbrev P__law_word : List Str := ["_law_tape_here", "_law_stem"]
def ea__law_word (a : List D × D) : List Ag := [.w (.ls a.1), .d a.2]
/-! ### _law_fresh -/
abbrev s__law_fresh : Stmt := top 46
abbrev N__law_fresh : List Str := ["_law_tape_here", "_law_used", "_law_word_here", "_law_k"]
abbrev P__law_fresh : List Str := ["_law_tape_here", "_law_used"]
def ea__law_fresh (a : List D × List D) : List Ag := [.w (.ls a.1), .w (.ls a.2)]
/-! ### _law_written_name -/
abbrev s__law_written_name : Stmt := top 47
abbrev N__law_written_name : List Str := ["_law_name", "_law_sign"]
abbrev P__law_written_name : List Str := ["_law_name"]
def ea__law_written_name (a : D) : List Ag := [.d a]
/-! ### _law_joined_up -/
abbrev s__law_joined_up : Stmt := top 49
abbrev N__law_joined_up : List Str := ["_law_rows", "_law_numbers", "_law_row"]
abbrev P__law_joined_up : List Str := ["_law_rows"]
def ea__law_joined_up (a : D) : List Ag := [.d a]
/-! ### _law_written_term -/
abbrev s__law_written_term : Stmt := top 48
abbrev N__law_written_term : List Str := ["_law_term", "_law_part"]
abbrev P__law_written_term : List Str := ["_law_term"]
def ea__law_written_term (a : D) : List Ag := [.d a]
/-! ### _law_written_list -/
abbrev s__law_written_list : Stmt := top 50
abbrev N__law_written_list : List Str := ["_law_rows"]
abbrev P__law_written_list : List Str := ["_law_rows"]
def ea__law_written_list (a : D) : List Ag := [.d a]
/-! ### _law_written_terms -/
abbrev s__law_written_terms : Stmt := top 51
abbrev N__law_written_terms : List Str := ["_law_terms", "_law_term"]
abbrev P__law_written_terms : List Str := ["_law_terms"]
def ea__law_written_terms (a : D) : List Ag := [.d a]
/-! ### _law_written_claim -/
abbrev s__law_written_claim : Stmt := top 52
abbrev N__law_written_claim : List Str := ["_law_claim", "_law_statement", "_law_rows", "_law_numbers", "_law_row"]
abbrev P__law_written_claim : List Str := ["_law_claim"]
def ea__law_written_claim (a : D) : List Ag := [.d a]
/-! ### _law_written_argument -/
abbrev s__law_written_argument : Stmt := top 53
abbrev N__law_written_argument : List Str := ["_law_argument", "_law_step", "_law_numbers", "_law_parts", "_law_part"]
abbrev P__law_written_argument : List Str := ["_law_argument"]
def ea__law_written_argument (a : D) : List Ag := [.d a]
/-! ### _law_written -/
abbrev s__law_written : Stmt := top 54
abbrev N__law_written : List Str := ["_law_parts", "_law_numbers", "_law_rules", "_law_rule", "_law_blocks", "_law_block", "_law_entries", "_law_entry", "_law_key", "_law_name", "_law_claim"]
abbrev P__law_written : List Str := ["_law_parts"]
def ea__law_written (a : D) : List Ag := [.d a]
/-! ### _law_any_term -/
abbrev s__law_any_term : Stmt := top 55
abbrev N__law_any_term : List Str := ["_law_tape_here", "_law_names", "_law_depth", "_law_choice", "_law_name", "_law_many", "_law_k"]
abbrev P__law_any_term : List Str := ["_law_tape_here", "_law_names", "_law_depth"]
def ea__law_any_term (a : List D × D × D) : List Ag := [.w (.ls a.1), .d a.2.1, .d a.2.2]
/-! ### _law_any_atom -/
abbrev s__law_any_atom : Stmt := top 56
abbrev N__law_any_atom : List Str := ["_law_tape_here", "_law_names", "_law_depth", "_law_many", "_law_name", "_law_k"]
abbrev P__law_any_atom : List Str := ["_law_tape_here", "_law_names", "_law_depth"]
def ea__law_any_atom (a : List D × D × D) : List Ag := [.w (.ls a.1), .d a.2.1, .d a.2.2]
/-! ### _law_any_argument -/
abbrev s__law_any_argument : Stmt := top 57
abbrev N__law_any_argument : List Str := ["_law_tape_here", "_law_names", "_law_depth", "_law_name", "_law_terms", "_law_places", "_law_steps", "_law_step", "_law_parts", "_law_k", "_law_label"]
abbrev P__law_any_argument : List Str := ["_law_tape_here", "_law_names", "_law_depth"]
def ea__law_any_argument (a : List D × D × D) : List Ag := [.w (.ls a.1), .d a.2.1, .d a.2.2]
/-! ### _law_any_parts -/
abbrev s__law_any_parts : Stmt := top 58
abbrev N__law_any_parts : List Str := ["_law_tape_here", "_law_used", "_law_names", "_law_rules", "_law_k", "_law_atoms", "_law_blocks", "_law_claims", "_law_j", "_law_premises", "_law_rows", "_law_i", "_law_statement", "_law_induction", "_law_entries", "_law_key", "_law_argument", "_law_imports", "_law_h"]
abbrev P__law_any_parts : List Str := ["_law_tape_here"]
def ea__law_any_parts (a : List D) : List Ag := [.w (.ls a)]
/-! ### _law_deep -/
abbrev s__law_deep : Stmt := top 59
abbrev N__law_deep : List Str := ["_law_name", "_law_depth", "_law_term", "_law_k"]
abbrev P__law_deep : List Str := ["_law_name", "_law_depth"]
def ea__law_deep (a : D × D) : List Ag := [.d a.1, .d a.2]
/-! ### _law_tape -/
abbrev s__law_tape : Stmt := top 60
abbrev N__law_tape : List Str := ["_law_script", "_law_total", "_law_cell"]
abbrev P__law_tape : List Str := ["_law_script"]
def ea__law_tape (a : List D) : List Ag := [.z a]
/-! ### _law_alike -/
abbrev s__law_alike : Stmt := top 63
abbrev N__law_alike : List Str := ["_law_told", "_law_due"]
abbrev P__law_alike : List Str := ["_law_told", "_law_due"]
def ea__law_alike (a : D × D) : List Ag := [.d a.1, .d a.2]
/-! ### law -/
abbrev s_law : Stmt := top 64
abbrev N_law : List Str := ["_law_script", "_law_tape_here", "_law_parts", "_law_argument", "_law_k", "_law_rule", "_law_due"]
abbrev P_law : List Str := ["_law_script"]
def ea_law (a : List D) : List Ag := [.z a]
def b1_write_name  (y5 : D) (c4 : Unit) : R (D × Unit) :=
  R.opt (ordD [y5]) fun z8 =>
  .ok (z8, ())
def m_write_name (a : D × List D) : R (List D) :=
  R.opt (lenD [a.1]) fun z1 =>
  R.opt (apD a.2 z1) fun z2 =>
  R.opt (seqD a.1) fun l3 =>
  R.bind2 (lcL b1_write_name l3 () []) fun l9 c10 =>
  R.opt (exD z2 (.list l9)) fun z11 =>
  .ok z11
theorem cov_write_name : ∀ (a : D × List D) (b : List D) (j : Nat) (o : Ob), (ea_write_name a)[j]? = some (.w o) → ∃ o', (j, o') ∈ ((erW 1) b).2 := by
  intro a b j o h
  rcases j with _ | _ | j
  · cases h
  · exact ⟨_, List.Mem.head _⟩
  · cases h
theorem h_write_name {k : Nat} (hD : DefAt K mg "write_name" s_write_name P_write_name) (B : Bl K w mg) : Has P w K mg base (k + 1) "write_name" P_write_name ea_write_name (erW 1) m_write_name := by
  refine Has.mk' (N := N_write_name) hD ⟨rfl, rfl, rfl, by decide +kernel, rfl, by decide +kernel, by decide +kernel⟩ (fun _ => rfl) (cov_write_name) fun f cd A outer s H E W F a hr hg => ?main
  case main =>
    have nd : N_write_name.Nodup := by decide +kernel
    refine psk_cons ?_
    refine ps1_append 1 ⟨_, _, rfl, ?_⟩
    refine pek_blt blt_len B.len ?_
    refine pak_cons ?_
    refine pek_va 0 ?_
    refine pak_nil ?_
    refine ⟨_, _, rfl, rfl, fun z1 => ?_⟩
    refine ⟨_, _, _, _, rfl, rfl, rfl, fun z2 => ?_⟩
    refine psk_cons ?_
    refine ps1_extend 1 ⟨_, _, rfl, ?_⟩
    refine pek_lcK [("sign", 2)] (fun (c4 : Unit) => [.va a.1, .ow (some 1) (.ls z2), .no]) b1_write_name ?_ ?_ (by intro c j hj; simp at hj; subst hj; rfl) nd rfl (show BlkOk N_write_name (defScope s_write_name) _ _ from ⟨rfl, by decide +kernel, by decide +kernel, by decide +kernel, by decide +kernel⟩)
    rotate_left
    · intro s' H' Ca cl fp y5 c4
      refine pgk_name 2 ?_ nd
      intro s2 H2 Ca2 cl2 fp2
      refine pek_blt blt_ord B.ord ?_
      refine pak_cons ?_
      refine pek_va 2 ?_
      refine pak_nil ?_
      refine ⟨_, _, rfl, rfl, fun z8 => ?_⟩
      exact ⟨_, (), rfl, (.keep (.keep (.drop .nil))), rfl⟩
    refine pik_seq ?_
    refine pek_va 0 ?_
    refine ⟨_, _, rfl, rfl, fun l3 => ?_⟩
    refine ⟨(), _, (.keep (.keep (.keep .nil))), rfl, fun l9 c10 => ?_⟩
    refine ⟨_, _, _, _, rfl, rfl, rfl, fun z11 => ?_⟩
    refine psk_nil ?_
    exact nx_w rfl rfl
def b1_write_term (q_write_term : D × List D → R (List D)) (y15 : D) (c14 : List D) : R (Ct (List D)) :=
  R.bind (q_write_term (y15, c14)) fun b16 =>
  .ok (.nx b16)
def g_write_term (q_write_term : D × List D → R (List D)) (a : D × List D) : R (List D) :=
  R.bind (R.opt (some (isIntD a.1)) fun z2 =>
  R.ite (truD (.bool z2)) (
  R.opt (fdivD a.1 (.int 256)) fun z3 =>
  R.opt (intD [a.1]) fun z4 =>
  R.opt (modD z4 (.int 256)) fun z5 =>
  R.opt (exD a.2 (.list [(.int 0), z3, z5])) fun z6 =>
  .ok (.nx z6)) (
  R.opt (lenD [a.1]) fun z7 =>
  R.opt (apD a.2 z7) fun z8 =>
  R.opt (ixD a.1 (.int 0)) fun z9 =>
  R.bind (m_write_name (z9, z8)) fun b10 =>
  R.opt (asInt (.int 1)) fun z11 =>
  R.opt (slD a.1 (some z11) none) fun z12 =>
  R.opt (seqD z12) fun l13 =>
  R.bind (forL (b1_write_term q_write_term) l13 b10) (nxK fun (c17 : List D) =>
  .ok (.nx c17)))) (nxK fun (c1 : List D) =>
  .ok c1)
theorem cov_write_term : ∀ (a : D × List D) (b : List D) (j : Nat) (o : Ob), (ea_write_term a)[j]? = some (.w o) → ∃ o', (j, o') ∈ ((erW 1) b).2 := by
  intro a b j o h
  rcases j with _ | _ | j
  · cases h
  · exact ⟨_, List.Mem.head _⟩
  · cases h
theorem hg_write_term {k : Nat} (hD : DefAt K mg "write_term" s_write_term P_write_term) (B : Bl K w mg) {q_write_term : D × List D → R (List D)} (h_write_name : Has P w K mg base k "write_name" P_write_name ea_write_name (erW 1) m_write_name) (h_write_term : Has P w K mg base k "write_term" P_write_term ea_write_term (erW 1) q_write_term) : Has P w K mg base (k + 1) "write_term" P_write_term ea_write_term (erW 1) (g_write_term q_write_term) := by
  refine Has.mk' (N := N_write_term) hD ⟨rfl, rfl, rfl, by decide +kernel, rfl, by decide +kernel, by decide +kernel⟩ (fun _ => rfl) (cov_write_term) fun f cd A outer s H E W F a hr hg => ?main
  case main =>
    have nd : N_write_term.Nodup := by decide +kernel
    refine psk_cons ?_
    refine ps1_joinK (fun (c1 : List D) => [.va a.1, .ow (some 1) (.ls c1), .no]) rfl ?_ (fun c1 => ?_)
    · refine ps1_if ?_
      refine ptk_tru ?_
      refine pek_isi is_int B.isinstance B.int ?_
      refine pek_va 0 ?_
      refine AfterN.opt rfl rfl fun z2 => ?_
      refine AfterT.ite rfl rfl ?_ ?_
      · refine psk_cons ?_
        refine ps1_extend 1 ⟨_, _, rfl, ?_⟩
        refine pek_lst ?_
        refine pak_cons ?_
        refine pek_int ?_
        refine pak_cons ?_
        refine pek_bin bin_fdiv ?_
        refine pek_va 0 ?_
        refine pek_int ?_
        refine ⟨_, _, _, rfl, rfl, rfl, fun z3 => ?_⟩
        refine pak_cons ?_
        refine pek_bin bin_mod ?_
        refine pek_ty blt_int B.int ?_
        refine pak_cons ?_
        refine pek_va 0 ?_
        refine pak_nil ?_
        refine ⟨_, _, rfl, rfl, fun z4 => ?_⟩
        refine pek_int ?_
        refine ⟨_, _, _, rfl, rfl, rfl, fun z5 => ?_⟩
        refine pak_nil ?_
        refine ⟨_, rfl, Nat.le_of_ble_eq_true rfl, ?_⟩
        refine ⟨_, _, _, _, rfl, rfl, rfl, fun z6 => ?_⟩
        refine psk_nil ?_
        exact ⟨z6, (.keep (.keep (.keep .nil))), rfl⟩
      · refine psk_cons ?_
        refine ps1_append 1 ⟨_, _, rfl, ?_⟩
        refine pek_blt blt_len B.len ?_
        refine pak_cons ?_
        refine pek_va 0 ?_
        refine pak_nil ?_
        refine ⟨_, _, rfl, rfl, fun z7 => ?_⟩
        refine ⟨_, _, _, _, rfl, rfl, rfl, fun z8 => ?_⟩
        refine psk_cons ?_
        refine ps1_expr ?_
        refine pek_has h_write_name hr hg body_passes ?_
        refine pak_cons ?_
        refine pek_ix ?_
        refine pek_va 0 ?_
        refine pek_int ?_
        refine ⟨_, _, _, rfl, rfl, rfl, fun z9 => ?_⟩
        refine pak_cons ?_
        refine pek_ow 1 ?_
        refine pak_nil ?_
        refine ⟨(z9, z8), _, rfl, (show List.Nodup ([1] : List Nat) by decide), rfl, fun b10 => ?_⟩
        refine psk_cons ?_
        refine ps1_forK [2] (fun (c14 : List D) => [.va a.1, .ow (some 1) (.ls c14), .no]) (b1_write_term q_write_term) ?_ ?_ body_own rfl
        rotate_left
        · intro y15 c14
          refine pgk_name 2 ?_ nd
          refine psk_cons ?_
          refine ps1_expr ?_
          refine pek_has h_write_term hr hg body_passes ?_
          refine pak_cons ?_
          refine pek_va 2 ?_
          refine pak_cons ?_
          refine pek_ow 1 ?_
          refine pak_nil ?_
          refine ⟨(y15, c14), _, rfl, (show List.Nodup ([1] : List Nat) by decide), rfl, fun b16 => ?_⟩
          refine psk_nil ?_
          exact ⟨b16, (.keep (.keep (.drop .nil))), rfl⟩
        refine pik_seq ?_
        refine pek_sl ?_
        refine pek_va 0 ?_
        refine pok_s ?_
        refine pek_int ?_
        refine ⟨_, _, rfl, rfl, fun z11 => ?_⟩
        refine pok_none ?_
        refine ⟨_, _, rfl, rfl, fun z12 => ?_⟩
        refine ⟨_, _, rfl, rfl, fun l13 => ?_⟩
        refine ⟨b10, _, (.keep (.keep (.keep .nil))), rfl, fun c17 => ?_⟩
        refine psk_nil ?_
        exact ⟨c17, (.keep (.keep (.keep .nil))), rfl⟩
    refine psk_nil ?_
    exact nx_w rfl rfl
def m_write_term : Nat → D × List D → R (List D)
  | 0 => fun _ => .stuck
  | n + 1 => g_write_term (m_write_term n)
def b1_write_terms  (y5 : D) (c4 : List D) : R (Ct (List D)) :=
  R.bind ((m_write_term 24) (y5, c4)) fun b6 =>
  .ok (.nx b6)
def m_write_terms (a : D × List D) : R (List D) :=
  R.opt (lenD [a.1]) fun z1 =>
  R.opt (apD a.2 z1) fun z2 =>
  R.opt (seqD a.1) fun l3 =>
  R.bind (forL b1_write_terms l3 z2) (nxK fun (c7 : List D) =>
  .ok c7)
theorem cov_write_terms : ∀ (a : D × List D) (b : List D) (j : Nat) (o : Ob), (ea_write_terms a)[j]? = some (.w o) → ∃ o', (j, o') ∈ ((erW 1) b).2 := by
  intro a b j o h
  rcases j with _ | _ | j
  · cases h
  · exact ⟨_, List.Mem.head _⟩
  · cases h
theorem h_write_terms {k : Nat} (hD : DefAt K mg "write_terms" s_write_terms P_write_terms) (B : Bl K w mg) (h_write_term : Has P w K mg base k "write_term" P_write_term ea_write_term (erW 1) (m_write_term 24)) : Has P w K mg base (k + 1) "write_terms" P_write_terms ea_write_terms (erW 1) m_write_terms := by
  refine Has.mk' (N := N_write_terms) hD ⟨rfl, rfl, rfl, by decide +kernel, rfl, by decide +kernel, by decide +kernel⟩ (fun _ => rfl) (cov_write_terms) fun f cd A outer s H E W F a hr hg => ?main
  case main =>
    have nd : N_write_terms.Nodup := by decide +kernel
    refine psk_cons ?_
    refine ps1_append 1 ⟨_, _, rfl, ?_⟩
    refine pek_blt blt_len B.len ?_
    refine pak_cons ?_
    refine pek_va 0 ?_
    refine pak_nil ?_
    refine ⟨_, _, rfl, rfl, fun z1 => ?_⟩
    refine ⟨_, _, _, _, rfl, rfl, rfl, fun z2 => ?_⟩
    refine psk_cons ?_
    refine ps1_forK [2] (fun (c4 : List D) => [.va a.1, .ow (some 1) (.ls c4), .no]) b1_write_terms ?_ ?_ body_own rfl
    rotate_left
    · intro y5 c4
      refine pgk_name 2 ?_ nd
      refine psk_cons ?_
      refine ps1_expr ?_
      refine pek_has h_write_term hr hg body_passes ?_
      refine pak_cons ?_
      refine pek_va 2 ?_
      refine pak_cons ?_
      refine pek_ow 1 ?_
      refine pak_nil ?_
      refine ⟨(y5, c4), _, rfl, (show List.Nodup ([1] : List Nat) by decide), rfl, fun b6 => ?_⟩
      refine psk_nil ?_
      exact ⟨b6, (.keep (.keep (.drop .nil))), rfl⟩
    refine pik_seq ?_
    refine pek_va 0 ?_
    refine ⟨_, _, rfl, rfl, fun l3 => ?_⟩
    refine ⟨z2, _, (.keep (.keep (.keep .nil))), rfl, fun c7 => ?_⟩
    refine psk_nil ?_
    exact nx_w rfl rfl
def m_write_numbers (a : D × List D) : R (List D) :=
  R.opt (lenD [a.1]) fun z1 =>
  R.opt (apD a.2 z1) fun z2 =>
  R.opt (exD z2 a.1) fun z3 =>
  .ok z3
theorem cov_write_numbers : ∀ (a : D × List D) (b : List D) (j : Nat) (o : Ob), (ea_write_numbers a)[j]? = some (.w o) → ∃ o', (j, o') ∈ ((erW 1) b).2 := by
  intro a b j o h
  rcases j with _ | _ | j
  · cases h
  · exact ⟨_, List.Mem.head _⟩
  · cases h
theorem h_write_numbers {k : Nat} (hD : DefAt K mg "write_numbers" s_write_numbers P_write_numbers) (B : Bl K w mg) : Has P w K mg base (k + 1) "write_numbers" P_write_numbers ea_write_numbers (erW 1) m_write_numbers := by
  refine Has.mk' (N := N_write_numbers) hD ⟨rfl, rfl, rfl, by decide +kernel, rfl, by decide +kernel, by decide +kernel⟩ (fun _ => rfl) (cov_write_numbers) fun f cd A outer s H E W F a hr hg => ?main
  case main =>
    have nd : N_write_numbers.Nodup := by decide +kernel
    refine psk_cons ?_
    refine ps1_append 1 ⟨_, _, rfl, ?_⟩
    refine pek_blt blt_len B.len ?_
    refine pak_cons ?_
    refine pek_va 0 ?_
    refine pak_nil ?_
    refine ⟨_, _, rfl, rfl, fun z1 => ?_⟩
    refine ⟨_, _, _, _, rfl, rfl, rfl, fun z2 => ?_⟩
    refine psk_cons ?_
    refine ps1_extend 1 ⟨_, _, rfl, ?_⟩
    refine pek_va 0 ?_
    refine ⟨_, _, _, _, rfl, rfl, rfl, fun z3 => ?_⟩
    refine psk_nil ?_
    exact nx_w rfl rfl
def b1_write_rules  (y5 : D) (c4 : List D) : R (Ct (List D)) :=
  R.opt3 (un3 y5) fun u6 u7 u8 =>
  R.bind (m_write_name (u6, c4)) fun b9 =>
  R.bind (m_write_terms (u7, b9)) fun b10 =>
  R.bind ((m_write_term 24) (u8, b10)) fun b11 =>
  .ok (.nx b11)
def m_write_rules (a : D × List D) : R (List D) :=
  R.opt (lenD [a.1]) fun z1 =>
  R.opt (apD a.2 z1) fun z2 =>
  R.opt (seqD a.1) fun l3 =>
  R.bind (forL b1_write_rules l3 z2) (nxK fun (c12 : List D) =>
  .ok c12)
theorem cov_write_rules : ∀ (a : D × List D) (b : List D) (j : Nat) (o : Ob), (ea_write_rules a)[j]? = some (.w o) → ∃ o', (j, o') ∈ ((erW 1) b).2 := by
  intro a b j o h
  rcases j with _ | _ | j
  · cases h
  · exact ⟨_, List.Mem.head _⟩
  · cases h
theorem h_write_rules {k : Nat} (hD : DefAt K mg "write_rules" s_write_rules P_write_rules) (B : Bl K w mg) (h_write_name : Has P w K mg base k "write_name" P_write_name ea_write_name (erW 1) m_write_name) (h_write_terms : Has P w K mg base k "write_terms" P_write_terms ea_write_terms (erW 1) m_write_terms) (h_write_term : Has P w K mg base k "write_term" P_write_term ea_write_term (erW 1) (m_write_term 24)) : Has P w K mg base (k + 1) "write_rules" P_write_rules ea_write_rules (erW 1) m_write_rules := by
  refine Has.mk' (N := N_write_rules) hD ⟨rfl, rfl, rfl, by decide +kernel, rfl, by decide +kernel, by decide +kernel⟩ (fun _ => rfl) (cov_write_rules) fun f cd A outer s H E W F a hr hg => ?main
  case main =>
    have nd : N_write_rules.Nodup := by decide +kernel
    refine psk_cons ?_
    refine ps1_append 1 ⟨_, _, rfl, ?_⟩
    refine pek_blt blt_len B.len ?_
    refine pak_cons ?_
    refine pek_va 0 ?_
    refine pak_nil ?_
    refine ⟨_, _, rfl, rfl, fun z1 => ?_⟩
    refine ⟨_, _, _, _, rfl, rfl, rfl, fun z2 => ?_⟩
    refine psk_cons ?_
    refine ps1_forK [2, 3, 4] (fun (c4 : List D) => [.va a.1, .ow (some 1) (.ls c4), .no, .no, .no]) b1_write_rules ?_ ?_ body_own rfl
    rotate_left
    · intro y5 c4
      refine pgk_t3 ⟨_, rfl, fun u6 u7 u8 => ?_⟩ rfl
      refine pgsk_cons ?_
      refine pgk_name 2 ?_ nd
      refine pgsk_cons ?_
      refine pgk_name 3 ?_ nd
      refine pgsk_cons ?_
      refine pgk_name 4 ?_ nd
      refine pgsk_nil ?_
      refine psk_cons ?_
      refine ps1_expr ?_
      refine pek_has h_write_name hr hg body_passes ?_
      refine pak_cons ?_
      refine pek_va 2 ?_
      refine pak_cons ?_
      refine pek_ow 1 ?_
      refine pak_nil ?_
      refine ⟨(u6, c4), _, rfl, (show List.Nodup ([1] : List Nat) by decide), rfl, fun b9 => ?_⟩
      refine psk_cons ?_
      refine ps1_expr ?_
      refine pek_has h_write_terms hr hg body_passes ?_
      refine pak_cons ?_
      refine pek_va 3 ?_
      refine pak_cons ?_
      refine pek_ow 1 ?_
      refine pak_nil ?_
      refine ⟨(u7, b9), _, rfl, (show List.Nodup ([1] : List Nat) by decide), rfl, fun b10 => ?_⟩
      refine psk_cons ?_
      refine ps1_expr ?_
      refine pek_has h_write_term hr hg body_passes ?_
      refine pak_cons ?_
      refine pek_va 4 ?_
      refine pak_cons ?_
      refine pek_ow 1 ?_
      refine pak_nil ?_
      refine ⟨(u8, b10), _, rfl, (show List.Nodup ([1] : List Nat) by decide), rfl, fun b11 => ?_⟩
      refine psk_nil ?_
      exact ⟨b11, (.keep (.keep (.drop (.drop (.drop .nil))))), rfl⟩
    refine pik_seq ?_
    refine pek_va 0 ?_
    refine ⟨_, _, rfl, rfl, fun l3 => ?_⟩
    refine ⟨z2, _, (.keep (.keep (.keep (.keep (.keep .nil))))), rfl, fun c12 => ?_⟩
    refine psk_nil ?_
    exact nx_w rfl rfl
def b1_write_claim  (y15 : D) (c14 : List D) : R (Ct (List D)) :=
  R.bind (m_write_terms (y15, c14)) fun b16 =>
  .ok (.nx b16)
def m_write_claim (a : D × List D) : R (List D) :=
  R.opt3 (un3 a.1) fun u1 u2 u3 =>
  R.bind (m_write_name (u1, a.2)) fun b4 =>
  R.opt (ixD u2 (.int 0)) fun z5 =>
  R.opt (apD b4 z5) fun z6 =>
  R.opt (ixD u2 (.int 1)) fun z7 =>
  R.bind (m_write_terms (z7, z6)) fun b8 =>
  R.opt (ixD u2 (.int 2)) fun z9 =>
  R.opt (lenD [z9]) fun z10 =>
  R.opt (apD b8 z10) fun z11 =>
  R.opt (ixD u2 (.int 2)) fun z12 =>
  R.opt (seqD z12) fun l13 =>
  R.bind (forL b1_write_claim l13 z11) (nxK fun (c17 : List D) =>
  R.bind (m_write_numbers (u3, c17)) fun b18 =>
  .ok b18)
theorem cov_write_claim : ∀ (a : D × List D) (b : List D) (j : Nat) (o : Ob), (ea_write_claim a)[j]? = some (.w o) → ∃ o', (j, o') ∈ ((erW 1) b).2 := by
  intro a b j o h
  rcases j with _ | _ | j
  · cases h
  · exact ⟨_, List.Mem.head _⟩
  · cases h
theorem h_write_claim {k : Nat} (hD : DefAt K mg "write_claim" s_write_claim P_write_claim) (B : Bl K w mg) (h_write_name : Has P w K mg base k "write_name" P_write_name ea_write_name (erW 1) m_write_name) (h_write_terms : Has P w K mg base k "write_terms" P_write_terms ea_write_terms (erW 1) m_write_terms) (h_write_numbers : Has P w K mg base k "write_numbers" P_write_numbers ea_write_numbers (erW 1) m_write_numbers) : Has P w K mg base (k + 1) "write_claim" P_write_claim ea_write_claim (erW 1) m_write_claim := by
  refine Has.mk' (N := N_write_claim) hD ⟨rfl, rfl, rfl, by decide +kernel, rfl, by decide +kernel, by decide +kernel⟩ (fun _ => rfl) (cov_write_claim) fun f cd A outer s H E W F a hr hg => ?main
  case main =>
    have nd : N_write_claim.Nodup := by decide +kernel
    refine psk_cons ?_
    refine ps1_asg [2, 3, 4] ?_
    refine pek_va 0 ?_
    refine ⟨_, rfl, ?_⟩
    refine pgk_t3 ⟨_, rfl, fun u1 u2 u3 => ?_⟩ rfl
    refine pgsk_cons ?_
    refine pgk_name 2 ?_ nd
    refine pgsk_cons ?_
    refine pgk_name 3 ?_ nd
    refine pgsk_cons ?_
    refine pgk_name 4 ?_ nd
    refine pgsk_nil ?_
    refine psk_cons ?_
    refine ps1_expr ?_
    refine pek_has h_write_name hr hg body_passes ?_
    refine pak_cons ?_
    refine pek_va 2 ?_
    refine pak_cons ?_
    refine pek_ow 1 ?_
    refine pak_nil ?_
    refine ⟨(u1, a.2), _, rfl, (show List.Nodup ([1] : List Nat) by decide), rfl, fun b4 => ?_⟩
    refine psk_cons ?_
    refine ps1_append 1 ⟨_, _, rfl, ?_⟩
    refine pek_ix ?_
    refine pek_va 3 ?_
    refine pek_int ?_
    refine ⟨_, _, _, rfl, rfl, rfl, fun z5 => ?_⟩
    refine ⟨_, _, _, _, rfl, rfl, rfl, fun z6 => ?_⟩
    refine psk_cons ?_
    refine ps1_expr ?_
    refine pek_has h_write_terms hr hg body_passes ?_
    refine pak_cons ?_
    refine pek_ix ?_
    refine pek_va 3 ?_
    refine pek_int ?_
    refine ⟨_, _, _, rfl, rfl, rfl, fun z7 => ?_⟩
    refine pak_cons ?_
    refine pek_ow 1 ?_
    refine pak_nil ?_
    refine ⟨(z7, z6), _, rfl, (show List.Nodup ([1] : List Nat) by decide), rfl, fun b8 => ?_⟩
    refine psk_cons ?_
    refine ps1_append 1 ⟨_, _, rfl, ?_⟩
    refine pek_blt blt_len B.len ?_
    refine pak_cons ?_
    refine pek_ix ?_
    refine pek_va 3 ?_
    refine pek_int ?_
    refine ⟨_, _, _, rfl, rfl, rfl, fun z9 => ?_⟩
    refine pak_nil ?_
    refine ⟨_, _, rfl, rfl, fun z10 => ?_⟩
    refine ⟨_, _, _, _, rfl, rfl, rfl, fun z11 => ?_⟩
    refine psk_cons ?_
    refine ps1_forK [5] (fun (c14 : List D) => [.va a.1, .ow (some 1) (.ls c14), .va u1, .va u2, .va u3, .no]) b1_write_claim ?_ ?_ body_own rfl
    rotate_left
    · intro y15 c14
      refine pgk_name 5 ?_ nd
      refine psk_cons ?_
      refine ps1_expr ?_
      refine pek_has h_write_terms hr hg body_passes ?_
      refine pak_cons ?_
      refine pek_va 5 ?_
      refine pak_cons ?_
      refine pek_ow 1 ?_
      refine pak_nil ?_
      refine ⟨(y15, c14), _, rfl, (show List.Nodup ([1] : List Nat) by decide), rfl, fun b16 => ?_⟩
      refine psk_nil ?_
      exact ⟨b16, (.keep (.keep (.keep (.keep (.keep (.drop .nil)))))), rfl⟩
    refine pik_seq ?_
    refine pek_ix ?_
    refine pek_va 3 ?_
    refine pek_int ?_
    refine ⟨_, _, _, rfl, rfl, rfl, fun z12 => ?_⟩
    refine ⟨_, _, rfl, rfl, fun l13 => ?_⟩
    refine ⟨z11, _, (.keep (.keep (.keep (.keep (.keep (.keep .nil)))))), rfl, fun c17 => ?_⟩
    refine psk_cons ?_
    refine ps1_expr ?_
    refine pek_has h_write_numbers hr hg body_passes ?_
    refine pak_cons ?_
    refine pek_va 4 ?_
    refine pak_cons ?_
    refine pek_ow 1 ?_
    refine pak_nil ?_
    refine ⟨(u3, c17), _, rfl, (show List.Nodup ([1] : List Nat) by decide), rfl, fun b18 => ?_⟩
    refine psk_nil ?_
    exact nx_w rfl rfl
def b1_write_blocks  (y14 : D) (c13 : List D) : R (Ct (List D)) :=
  R.bind (m_write_claim (y14, c13)) fun b15 =>
  .ok (.nx b15)
def b2_write_blocks  (y5 : D) (c4 : List D) : R (Ct (List D)) :=
  R.opt2 (un2 y5) fun u6 u7 =>
  R.opt (intD [u6]) fun z8 =>
  R.opt (apD c4 z8) fun z9 =>
  R.opt (lenD [u7]) fun z10 =>
  R.opt (apD z9 z10) fun z11 =>
  R.opt (seqD u7) fun l12 =>
  R.bind (forL b1_write_blocks l12 z11) (nxK fun (c16 : List D) =>
  .ok (.nx c16))
def m_write_blocks (a : D × List D) : R (List D) :=
  R.opt (lenD [a.1]) fun z1 =>
  R.opt (apD a.2 z1) fun z2 =>
  R.opt (seqD a.1) fun l3 =>
  R.bind (forL b2_write_blocks l3 z2) (nxK fun (c17 : List D) =>
  .ok c17)
theorem cov_write_blocks : ∀ (a : D × List D) (b : List D) (j : Nat) (o : Ob), (ea_write_blocks a)[j]? = some (.w o) → ∃ o', (j, o') ∈ ((erW 1) b).2 := by
  intro a b j o h
  rcases j with _ | _ | j
  · cases h
  · exact ⟨_, List.Mem.head _⟩
  · cases h
theorem h_write_blocks {k : Nat} (hD : DefAt K mg "write_blocks" s_write_blocks P_write_blocks) (B : Bl K w mg) (h_write_claim : Has P w K mg base k "write_claim" P_write_claim ea_write_claim (erW 1) m_write_claim) : Has P w K mg base (k + 1) "write_blocks" P_write_blocks ea_write_blocks (erW 1) m_write_blocks := by
  refine Has.mk' (N := N_write_blocks) hD ⟨rfl, rfl, rfl, by decide +kernel, rfl, by decide +kernel, by decide +kernel⟩ (fun _ => rfl) (cov_write_blocks) fun f cd A outer s H E W F a hr hg => ?main
  case main =>
    have nd : N_write_blocks.Nodup := by decide +kernel
    refine psk_cons ?_
    refine ps1_append 1 ⟨_, _, rfl, ?_⟩
    refine pek_blt blt_len B.len ?_
    refine pak_cons ?_
    refine pek_va 0 ?_
    refine pak_nil ?_
    refine ⟨_, _, rfl, rfl, fun z1 => ?_⟩
    refine ⟨_, _, _, _, rfl, rfl, rfl, fun z2 => ?_⟩
    refine psk_cons ?_
    refine ps1_forK [2, 3] (fun (c4 : List D) => [.va a.1, .ow (some 1) (.ls c4), .no, .no, .no]) b2_write_blocks ?_ ?_ body_own rfl
    rotate_left
    · intro y5 c4
      refine pgk_t2 ⟨_, rfl, fun u6 u7 => ?_⟩ rfl
      refine pgsk_cons ?_
      refine pgk_name 2 ?_ nd
      refine pgsk_cons ?_
      refine pgk_name 3 ?_ nd
      refine pgsk_nil ?_
      refine psk_cons ?_
      refine ps1_append 1 ⟨_, _, rfl, ?_⟩
      refine pek_ty blt_int B.int ?_
      refine pak_cons ?_
      refine pek_va 2 ?_
      refine pak_nil ?_
      refine ⟨_, _, rfl, rfl, fun z8 => ?_⟩
      refine ⟨_, _, _, _, rfl, rfl, rfl, fun z9 => ?_⟩
      refine psk_cons ?_
      refine ps1_append 1 ⟨_, _, rfl, ?_⟩
      refine pek_blt blt_len B.len ?_
      refine pak_cons ?_
      refine pek_va 3 ?_
      refine pak_nil ?_
      refine ⟨_, _, rfl, rfl, fun z10 => ?_⟩
      refine ⟨_, _, _, _, rfl, rfl, rfl, fun z11 => ?_⟩
      refine psk_cons ?_
      refine ps1_forK [4] (fun (c13 : List D) => [.va a.1, .ow (some 1) (.ls c13), .va u6, .va u7, .no]) b1_write_blocks ?_ ?_ body_own rfl
      rotate_left
      · intro y14 c13
        refine pgk_name 4 ?_ nd
        refine psk_cons ?_
        refine ps1_expr ?_
        refine pek_has h_write_claim hr hg body_passes ?_
        refine pak_cons ?_
        refine pek_va 4 ?_
        refine pak_cons ?_
        refine pek_ow 1 ?_
        refine pak_nil ?_
        refine ⟨(y14, c13), _, rfl, (show List.Nodup ([1] : List Nat) by decide), rfl, fun b15 => ?_⟩
        refine psk_nil ?_
        exact ⟨b15, (.keep (.keep (.keep (.keep (.drop .nil))))), rfl⟩
      refine pik_seq ?_
      refine pek_va 3 ?_
      refine ⟨_, _, rfl, rfl, fun l12 => ?_⟩
      refine ⟨z11, _, (.keep (.keep (.keep (.keep (.keep .nil))))), rfl, fun c16 => ?_⟩
      refine psk_nil ?_
      exact ⟨c16, (.keep (.keep (.drop (.drop (.keep .nil))))), rfl⟩
    refine pik_seq ?_
    refine pek_va 0 ?_
    refine ⟨_, _, rfl, rfl, fun l3 => ?_⟩
    refine ⟨z2, _, (.keep (.keep (.keep (.keep (.keep .nil))))), rfl, fun c17 => ?_⟩
    refine psk_nil ?_
    exact nx_w rfl rfl
def m_write_step (a : D × List D) : R (List D) :=
  R.opt (ixD a.1 (.int 0)) fun z1 =>
  R.opt (kdD cSTEP_KINDS z1) fun z2 =>
  R.opt (apD a.2 z2) fun z3 =>
  R.bind (R.opt (ixD a.1 (.int 0)) fun z5 =>
  R.ite (eqD z5 (.str "invert")) (
  R.opt (ixD a.1 (.int 1)) fun z6 =>
  R.opt (apD z3 z6) fun z7 =>
  .ok (.nx z7)) (
  R.bind (R.opt (ixD a.1 (.int 0)) fun z9 =>
  R.ite (eqD z9 (.str "done")) (
  R.opt (ixD a.1 (.int 1)) fun z10 =>
  R.opt (apD z3 z10) fun z11 =>
  R.opt (ixD a.1 (.int 2)) fun z12 =>
  R.bind (m_write_terms (z12, z11)) fun b13 =>
  .ok (.nx b13)) (
  R.opt (ixD a.1 (.int 1)) fun z14 =>
  R.bind (m_write_name (z14, z3)) fun b15 =>
  R.opt (ixD a.1 (.int 2)) fun z16 =>
  R.bind (m_write_terms (z16, b15)) fun b17 =>
  R.opt (ixD a.1 (.int 3)) fun z18 =>
  R.bind (m_write_numbers (z18, b17)) fun b19 =>
  .ok (.nx b19))) (nxK fun (c8 : List D) =>
  .ok (.nx c8)))) (nxK fun (c4 : List D) =>
  .ok c4)
theorem cov_write_step : ∀ (a : D × List D) (b : List D) (j : Nat) (o : Ob), (ea_write_step a)[j]? = some (.w o) → ∃ o', (j, o') ∈ ((erW 1) b).2 := by
  intro a b j o h
  rcases j with _ | _ | j
  · cases h
  · exact ⟨_, List.Mem.head _⟩
  · cases h
theorem h_write_step {k : Nat} (hk : 7 ≤ k) (hD : DefAt K mg "write_step" s_write_step P_write_step) (B : Bl K w mg) (h_write_terms : Has P w K mg base k "write_terms" P_write_terms ea_write_terms (erW 1) m_write_terms) (h_write_name : Has P w K mg base k "write_name" P_write_name ea_write_name (erW 1) m_write_name) (h_write_numbers : Has P w K mg base k "write_numbers" P_write_numbers ea_write_numbers (erW 1) m_write_numbers) : Has P w K mg base (k + 1) "write_step" P_write_step ea_write_step (erW 1) m_write_step := by
  refine Has.mk' (N := N_write_step) hD ⟨rfl, rfl, rfl, by decide +kernel, rfl, by decide +kernel, by decide +kernel⟩ (fun _ => rfl) (cov_write_step) fun f cd A outer s H E W F a hr hg => ?main
  case main =>
    have nd : N_write_step.Nodup := by decide +kernel
    have hu := room_eq hr hk
    refine psk_cons ?_
    refine ps1_append 1 ⟨_, _, rfl, ?_⟩
    refine pek_kd B.c_STEP_KINDS ?_
    refine pek_ix ?_
    refine pek_va 0 ?_
    refine pek_int ?_
    refine ⟨_, _, _, rfl, rfl, rfl, fun z1 => ?_⟩
    refine ⟨_, _, rfl, rfl, fun z2 => ?_⟩
    refine ⟨_, _, _, _, rfl, rfl, rfl, fun z3 => ?_⟩
    refine psk_cons ?_
    refine ps1_joinK (fun (c4 : List D) => [.va a.1, .ow (some 1) (.ls c4)]) rfl ?_ (fun c4 => ?_)
    · refine ps1_if ?_
      refine ptk_cmp (cmp_eq hu) ?_
      refine pek_ix ?_
      refine pek_va 0 ?_
      refine pek_int ?_
      refine ⟨_, _, _, rfl, rfl, rfl, fun z5 => ?_⟩
      refine pek_str ?_
      refine AfterC.ite rfl rfl rfl ?_ ?_
      · refine psk_cons ?_
        refine ps1_append 1 ⟨_, _, rfl, ?_⟩
        refine pek_ix ?_
        refine pek_va 0 ?_
        refine pek_int ?_
        refine ⟨_, _, _, rfl, rfl, rfl, fun z6 => ?_⟩
        refine ⟨_, _, _, _, rfl, rfl, rfl, fun z7 => ?_⟩
        refine psk_nil ?_
        exact ⟨z7, (.keep (.keep .nil)), rfl⟩
      · refine psk_cons ?_
        refine ps1_joinK (fun (c8 : List D) => [.va a.1, .ow (some 1) (.ls c8)]) rfl ?_ (fun c8 => ?_)
        · refine ps1_if ?_
          refine ptk_cmp (cmp_eq hu) ?_
          refine pek_ix ?_
          refine pek_va 0 ?_
          refine pek_int ?_
          refine ⟨_, _, _, rfl, rfl, rfl, fun z9 => ?_⟩
          refine pek_str ?_
          refine AfterC.ite rfl rfl rfl ?_ ?_
          · refine psk_cons ?_
            refine ps1_append 1 ⟨_, _, rfl, ?_⟩
            refine pek_ix ?_
            refine pek_va 0 ?_
            refine pek_int ?_
            refine ⟨_, _, _, rfl, rfl, rfl, fun z10 => ?_⟩
            refine ⟨_, _, _, _, rfl, rfl, rfl, fun z11 => ?_⟩
            refine psk_cons ?_
            refine ps1_expr ?_
            refine pek_has h_write_terms hr hg body_passes ?_
            refine pak_cons ?_
            refine pek_ix ?_
            refine pek_va 0 ?_
            refine pek_int ?_
            refine ⟨_, _, _, rfl, rfl, rfl, fun z12 => ?_⟩
            refine pak_cons ?_
            refine pek_ow 1 ?_
            refine pak_nil ?_
            refine ⟨(z12, z11), _, rfl, (show List.Nodup ([1] : List Nat) by decide), rfl, fun b13 => ?_⟩
            refine psk_nil ?_
            exact ⟨b13, (.keep (.keep .nil)), rfl⟩
          · refine psk_cons ?_
            refine ps1_expr ?_
            refine pek_has h_write_name hr hg body_passes ?_
            refine pak_cons ?_
            refine pek_ix ?_
            refine pek_va 0 ?_
            refine pek_int ?_
            refine ⟨_, _, _, rfl, rfl, rfl, fun z14 => ?_⟩
            refine pak_cons ?_
            refine pek_ow 1 ?_
            refine pak_nil ?_
            refine ⟨(z14, z3), _, rfl, (show List.Nodup ([1] : List Nat) by decide), rfl, fun b15 => ?_⟩
            refine psk_cons ?_
            refine ps1_expr ?_
            refine pek_has h_write_terms hr hg body_passes ?_
            refine pak_cons ?_
            refine pek_ix ?_
            refine pek_va 0 ?_
            refine pek_int ?_
            refine ⟨_, _, _, rfl, rfl, rfl, fun z16 => ?_⟩
            refine pak_cons ?_
            refine pek_ow 1 ?_
            refine pak_nil ?_
            refine ⟨(z16, b15), _, rfl, (show List.Nodup ([1] : List Nat) by decide), rfl, fun b17 => ?_⟩
            refine psk_cons ?_
            refine ps1_expr ?_
            refine pek_has h_write_numbers hr hg body_passes ?_
            refine pak_cons ?_
            refine pek_ix ?_
            refine pek_va 0 ?_
            refine pek_int ?_
            refine ⟨_, _, _, rfl, rfl, rfl, fun z18 => ?_⟩
            refine pak_cons ?_
            refine pek_ow 1 ?_
            refine pak_nil ?_
            refine ⟨(z18, b17), _, rfl, (show List.Nodup ([1] : List Nat) by decide), rfl, fun b19 => ?_⟩
            refine psk_nil ?_
            exact ⟨b19, (.keep (.keep .nil)), rfl⟩
        refine psk_nil ?_
        exact ⟨c8, (.keep (.keep .nil)), rfl⟩
    refine psk_nil ?_
    exact nx_w rfl rfl
def b1_write_argument (q_write_argument : D × List D → R (List D)) (y8 : D) (c7 : List D) : R (Ct (List D)) :=
  R.opt2 (un2 y8) fun u9 u10 =>
  R.bind (m_write_name (u9, c7)) fun b11 =>
  R.bind (q_write_argument (u10, b11)) fun b12 =>
  .ok (.nx b12)
def g_write_argument (q_write_argument : D × List D → R (List D)) (a : D × List D) : R (List D) :=
  R.opt2 (un2 a.1) fun u1 u2 =>
  R.bind (m_write_step (u1, a.2)) fun b3 =>
  R.opt (lenD [u2]) fun z4 =>
  R.opt (apD b3 z4) fun z5 =>
  R.opt (seqD u2) fun l6 =>
  R.bind (forL (b1_write_argument q_write_argument) l6 z5) (nxK fun (c13 : List D) =>
  .ok c13)
theorem cov_write_argument : ∀ (a : D × List D) (b : List D) (j : Nat) (o : Ob), (ea_write_argument a)[j]? = some (.w o) → ∃ o', (j, o') ∈ ((erW 1) b).2 := by
  intro a b j o h
  rcases j with _ | _ | j
  · cases h
  · exact ⟨_, List.Mem.head _⟩
  · cases h
theorem hg_write_argument {k : Nat} (hD : DefAt K mg "write_argument" s_write_argument P_write_argument) (B : Bl K w mg) {q_write_argument : D × List D → R (List D)} (h_write_step : Has P w K mg base k "write_step" P_write_step ea_write_step (erW 1) m_write_step) (h_write_name : Has P w K mg base k "write_name" P_write_name ea_write_name (erW 1) m_write_name) (h_write_argument : Has P w K mg base k "write_argument" P_write_argument ea_write_argument (erW 1) q_write_argument) : Has P w K mg base (k + 1) "write_argument" P_write_argument ea_write_argument (erW 1) (g_write_argument q_write_argument) := by
  refine Has.mk' (N := N_write_argument) hD ⟨rfl, rfl, rfl, by decide +kernel, rfl, by decide +kernel, by decide +kernel⟩ (fun _ => rfl) (cov_write_argument) fun f cd A outer s H E W F a hr hg => ?main
  case main =>
    have nd : N_write_argument.Nodup := by decide +kernel
    refine psk_cons ?_
    refine ps1_asg [2, 3] ?_
    refine pek_va 0 ?_
    refine ⟨_, rfl, ?_⟩
    refine pgk_t2 ⟨_, rfl, fun u1 u2 => ?_⟩ rfl
    refine pgsk_cons ?_
    refine pgk_name 2 ?_ nd
    refine pgsk_cons ?_
    refine pgk_name 3 ?_ nd
    refine pgsk_nil ?_
    refine psk_cons ?_
    refine ps1_expr ?_
    refine pek_has h_write_step hr hg body_passes ?_
    refine pak_cons ?_
    refine pek_va 2 ?_
    refine pak_cons ?_
    refine pek_ow 1 ?_
    refine pak_nil ?_
    refine ⟨(u1, a.2), _, rfl, (show List.Nodup ([1] : List Nat) by decide), rfl, fun b3 => ?_⟩
    refine psk_cons ?_
    refine ps1_append 1 ⟨_, _, rfl, ?_⟩
    refine pek_blt blt_len B.len ?_
    refine pak_cons ?_
    refine pek_va 3 ?_
    refine pak_nil ?_
    refine ⟨_, _, rfl, rfl, fun z4 => ?_⟩
    refine ⟨_, _, _, _, rfl, rfl, rfl, fun z5 => ?_⟩
    refine psk_cons ?_
    refine ps1_forK [4, 5] (fun (c7 : List D) => [.va a.1, .ow (some 1) (.ls c7), .va u1, .va u2, .no, .no]) (b1_write_argument q_write_argument) ?_ ?_ body_own rfl
    rotate_left
    · intro y8 c7
      refine pgk_t2 ⟨_, rfl, fun u9 u10 => ?_⟩ rfl
      refine pgsk_cons ?_
      refine pgk_name 4 ?_ nd
      refine pgsk_cons ?_
      refine pgk_name 5 ?_ nd
      refine pgsk_nil ?_
      refine psk_cons ?_
      refine ps1_expr ?_
      refine pek_has h_write_name hr hg body_passes ?_
      refine pak_cons ?_
      refine pek_va 4 ?_
      refine pak_cons ?_
      refine pek_ow 1 ?_
      refine pak_nil ?_
      refine ⟨(u9, c7), _, rfl, (show List.Nodup ([1] : List Nat) by decide), rfl, fun b11 => ?_⟩
      refine psk_cons ?_
      refine ps1_expr ?_
      refine pek_has h_write_argument hr hg body_passes ?_
      refine pak_cons ?_
      refine pek_va 5 ?_
      refine pak_cons ?_
      refine pek_ow 1 ?_
      refine pak_nil ?_
      refine ⟨(u10, b11), _, rfl, (show List.Nodup ([1] : List Nat) by decide), rfl, fun b12 => ?_⟩
      refine psk_nil ?_
      exact ⟨b12, (.keep (.keep (.keep (.keep (.drop (.drop .nil)))))), rfl⟩
    refine pik_seq ?_
    refine pek_va 3 ?_
    refine ⟨_, _, rfl, rfl, fun l6 => ?_⟩
    refine ⟨z5, _, (.keep (.keep (.keep (.keep (.keep (.keep .nil)))))), rfl, fun c13 => ?_⟩
    refine psk_nil ?_
    exact nx_w rfl rfl
def m_write_argument : Nat → D × List D → R (List D)
  | 0 => fun _ => .stuck
  | n + 1 => g_write_argument (m_write_argument n)
def b1_write_entries  (y5 : D) (c4 : List D) : R (Ct (List D)) :=
  R.opt3 (un3 y5) fun u6 u7 u8 =>
  R.bind (m_write_name (u6, c4)) fun b9 =>
  R.bind (R.ite (some (isNoneD u7)) (
  R.opt (apD b9 (.int 0)) fun z11 =>
  .ok (.nx z11)) (
  R.opt (apD b9 (.int 1)) fun z12 =>
  R.bind (m_write_name (u7, z12)) fun b13 =>
  .ok (.nx b13))) (nxK fun (c10 : List D) =>
  R.bind ((m_write_argument 64) (u8, c10)) fun b14 =>
  .ok (.nx b14))
def m_write_entries (a : D × List D) : R (List D) :=
  R.opt (lenD [a.1]) fun z1 =>
  R.opt (apD a.2 z1) fun z2 =>
  R.opt (seqD a.1) fun l3 =>
  R.bind (forL b1_write_entries l3 z2) (nxK fun (c15 : List D) =>
  .ok c15)
theorem cov_write_entries : ∀ (a : D × List D) (b : List D) (j : Nat) (o : Ob), (ea_write_entries a)[j]? = some (.w o) → ∃ o', (j, o') ∈ ((erW 1) b).2 := by
  intro a b j o h
  rcases j with _ | _ | j
  · cases h
  · exact ⟨_, List.Mem.head _⟩
  · cases h
theorem h_write_entries {k : Nat} (hD : DefAt K mg "write_entries" s_write_entries P_write_entries) (B : Bl K w mg) (h_write_name : Has P w K mg base k "write_name" P_write_name ea_write_name (erW 1) m_write_name) (h_write_argument : Has P w K mg base k "write_argument" P_write_argument ea_write_argument (erW 1) (m_write_argument 64)) : Has P w K mg base (k + 1) "write_entries" P_write_entries ea_write_entries (erW 1) m_write_entries := by
  refine Has.mk' (N := N_write_entries) hD ⟨rfl, rfl, rfl, by decide +kernel, rfl, by decide +kernel, by decide +kernel⟩ (fun _ => rfl) (cov_write_entries) fun f cd A outer s H E W F a hr hg => ?main
  case main =>
    have nd : N_write_entries.Nodup := by decide +kernel
    refine psk_cons ?_
    refine ps1_append 1 ⟨_, _, rfl, ?_⟩
    refine pek_blt blt_len B.len ?_
    refine pak_cons ?_
    refine pek_va 0 ?_
    refine pak_nil ?_
    refine ⟨_, _, rfl, rfl, fun z1 => ?_⟩
    refine ⟨_, _, _, _, rfl, rfl, rfl, fun z2 => ?_⟩
    refine psk_cons ?_
    refine ps1_forK [2, 3, 4] (fun (c4 : List D) => [.va a.1, .ow (some 1) (.ls c4), .no, .no, .no]) b1_write_entries ?_ ?_ body_own rfl
    rotate_left
    · intro y5 c4
      refine pgk_t3 ⟨_, rfl, fun u6 u7 u8 => ?_⟩ rfl
      refine pgsk_cons ?_
      refine pgk_name 2 ?_ nd
      refine pgsk_cons ?_
      refine pgk_name 3 ?_ nd
      refine pgsk_cons ?_
      refine pgk_name 4 ?_ nd
      refine pgsk_nil ?_
      refine psk_cons ?_
      refine ps1_expr ?_
      refine pek_has h_write_name hr hg body_passes ?_
      refine pak_cons ?_
      refine pek_va 2 ?_
      refine pak_cons ?_
      refine pek_ow 1 ?_
      refine pak_nil ?_
      refine ⟨(u6, c4), _, rfl, (show List.Nodup ([1] : List Nat) by decide), rfl, fun b9 => ?_⟩
      refine psk_cons ?_
      refine ps1_joinK (fun (c10 : List D) => [.va a.1, .ow (some 1) (.ls c10), .va u6, .va u7, .va u8]) rfl ?_ (fun c10 => ?_)
      · refine ps1_if ?_
        refine ptk_isN ?_
        refine pek_va 3 ?_
        refine AfterN.ite rfl rfl ?_ ?_
        · refine psk_cons ?_
          refine ps1_append 1 ⟨_, _, rfl, ?_⟩
          refine pek_int ?_
          refine ⟨_, _, _, _, rfl, rfl, rfl, fun z11 => ?_⟩
          refine psk_nil ?_
          exact ⟨z11, (.keep (.keep (.keep (.keep (.keep .nil))))), rfl⟩
        · refine psk_cons ?_
          refine ps1_append 1 ⟨_, _, rfl, ?_⟩
          refine pek_int ?_
          refine ⟨_, _, _, _, rfl, rfl, rfl, fun z12 => ?_⟩
          refine psk_cons ?_
          refine ps1_expr ?_
          refine pek_has h_write_name hr hg body_passes ?_
          refine pak_cons ?_
          refine pek_va 3 ?_
          refine pak_cons ?_
          refine pek_ow 1 ?_
          refine pak_nil ?_
          refine ⟨(u7, z12), _, rfl, (show List.Nodup ([1] : List Nat) by decide), rfl, fun b13 => ?_⟩
          refine psk_nil ?_
          exact ⟨b13, (.keep (.keep (.keep (.keep (.keep .nil))))), rfl⟩
      refine psk_cons ?_
      refine ps1_expr ?_
      refine pek_has h_write_argument hr hg body_passes ?_
      refine pak_cons ?_
      refine pek_va 4 ?_
      refine pak_cons ?_
      refine pek_ow 1 ?_
      refine pak_nil ?_
      refine ⟨(u8, c10), _, rfl, (show List.Nodup ([1] : List Nat) by decide), rfl, fun b14 => ?_⟩
      refine psk_nil ?_
      exact ⟨b14, (.keep (.keep (.drop (.drop (.drop .nil))))), rfl⟩
    refine pik_seq ?_
    refine pek_va 0 ?_
    refine ⟨_, _, rfl, rfl, fun l3 => ?_⟩
    refine ⟨z2, _, (.keep (.keep (.keep (.keep (.keep .nil))))), rfl, fun c15 => ?_⟩
    refine psk_nil ?_
    exact nx_w rfl rfl
def b1_numbers_of  (y12 : D) (c11 : List D) : R (Ct (List D)) :=
  R.bind (m_write_name (y12, c11)) fun b13 =>
  .ok (.nx b13)
def m_numbers_of (a : D) : R (D) :=
  R.opt5 (un5 a) fun u1 u2 u3 u4 u5 =>
  R.opt (listD cMAGIC) fun z6 =>
  R.bind (m_write_name (u1, z6)) fun b7 =>
  R.opt (lenD [u2]) fun z8 =>
  R.opt (apD b7 z8) fun z9 =>
  R.opt (seqD u2) fun l10 =>
  R.bind (forL b1_numbers_of l10 z9) (nxK fun (c14 : List D) =>
  R.bind (m_write_rules (u3, c14)) fun b15 =>
  R.bind (m_write_blocks (u4, b15)) fun b16 =>
  R.bind (m_write_entries (u5, b16)) fun b17 =>
  R.opt (tupleD [(.list b17)]) fun z18 =>
  .ok z18)
theorem cov_numbers_of : ∀ (a : D) (b : D) (j : Nat) (o : Ob), (ea_numbers_of a)[j]? = some (.w o) → ∃ o', (j, o') ∈ (erD b).2 := by
  intro a b j o h
  rcases j with _ | j
  · cases h
  · cases h
theorem h_numbers_of {k : Nat} (hD : DefAt K mg "numbers_of" s_numbers_of P_numbers_of) (B : Bl K w mg) (h_write_name : Has P w K mg base k "write_name" P_write_name ea_write_name (erW 1) m_write_name) (h_write_rules : Has P w K mg base k "write_rules" P_write_rules ea_write_rules (erW 1) m_write_rules) (h_write_blocks : Has P w K mg base k "write_blocks" P_write_blocks ea_write_blocks (erW 1) m_write_blocks) (h_write_entries : Has P w K mg base k "write_entries" P_write_entries ea_write_entries (erW 1) m_write_entries) : Has P w K mg base (k + 1) "numbers_of" P_numbers_of ea_numbers_of erD m_numbers_of := by
  refine Has.mk' (N := N_numbers_of) hD ⟨rfl, rfl, rfl, by decide +kernel, rfl, by decide +kernel, by decide +kernel⟩ (fun _ => rfl) (cov_numbers_of) fun f cd A outer s H E W F a hr hg => ?main
  case main =>
    have nd : N_numbers_of.Nodup := by decide +kernel
    refine psk_cons ?_
    refine ps1_asg [1, 2, 3, 4, 5] ?_
    refine pek_va 0 ?_
    refine ⟨_, rfl, ?_⟩
    refine pgk_t5 ⟨_, rfl, fun u1 u2 u3 u4 u5 => ?_⟩ rfl
    refine pgsk_cons ?_
    refine pgk_name 1 ?_ nd
    refine pgsk_cons ?_
    refine pgk_name 2 ?_ nd
    refine pgsk_cons ?_
    refine pgk_name 3 ?_ nd
    refine pgsk_cons ?_
    refine pgk_name 4 ?_ nd
    refine pgsk_cons ?_
    refine pgk_name 5 ?_ nd
    refine pgsk_nil ?_
    refine psk_cons ?_
    refine ps1_setO 6 ?_ nd
    refine pek_list B.list ?_
    refine pak_cons ?_
    refine pek_cst B.c_MAGIC ?_
    refine pak_nil ?_
    refine ⟨_, _, rfl, rfl, fun z6 => ?_⟩
    refine ⟨_, rfl, ?_⟩
    refine psk_cons ?_
    refine ps1_expr ?_
    refine pek_has h_write_name hr hg body_passes ?_
    refine pak_cons ?_
    refine pek_va 1 ?_
    refine pak_cons ?_
    refine pek_ow 6 ?_
    refine pak_nil ?_
    refine ⟨(u1, z6), _, rfl, (show List.Nodup ([6] : List Nat) by decide), rfl, fun b7 => ?_⟩
    refine psk_cons ?_
    refine ps1_append 6 ⟨_, _, rfl, ?_⟩
    refine pek_blt blt_len B.len ?_
    refine pak_cons ?_
    refine pek_va 2 ?_
    refine pak_nil ?_
    refine ⟨_, _, rfl, rfl, fun z8 => ?_⟩
    refine ⟨_, _, _, _, rfl, rfl, rfl, fun z9 => ?_⟩
    refine psk_cons ?_
    refine ps1_forK [7] (fun (c11 : List D) => [.va a, .va u1, .va u2, .va u3, .va u4, .va u5, .ow none (.ls c11), .no]) b1_numbers_of ?_ ?_ body_own rfl
    rotate_left
    · intro y12 c11
      refine pgk_name 7 ?_ nd
      refine psk_cons ?_
      refine ps1_expr ?_
      refine pek_has h_write_name hr hg body_passes ?_
      refine pak_cons ?_
      refine pek_va 7 ?_
      refine pak_cons ?_
      refine pek_ow 6 ?_
      refine pak_nil ?_
      refine ⟨(y12, c11), _, rfl, (show List.Nodup ([6] : List Nat) by decide), rfl, fun b13 => ?_⟩
      refine psk_nil ?_
      exact ⟨b13, (.keep (.keep (.keep (.keep (.keep (.keep (.keep (.drop .nil)))))))), rfl⟩
    refine pik_seq ?_
    refine pek_va 2 ?_
    refine ⟨_, _, rfl, rfl, fun l10 => ?_⟩
    refine ⟨z9, _, (.keep (.keep (.keep (.keep (.keep (.keep (.keep (.keep .nil)))))))), rfl, fun c14 => ?_⟩
    refine psk_cons ?_
    refine ps1_expr ?_
    refine pek_has h_write_rules hr hg body_passes ?_
    refine pak_cons ?_
    refine pek_va 3 ?_
    refine pak_cons ?_
    refine pek_ow 6 ?_
    refine pak_nil ?_
    refine ⟨(u3, c14), _, rfl, (show List.Nodup ([6] : List Nat) by decide), rfl, fun b15 => ?_⟩
    refine psk_cons ?_
    refine ps1_expr ?_
    refine pek_has h_write_blocks hr hg body_passes ?_
    refine pak_cons ?_
    refine pek_va 4 ?_
    refine pak_cons ?_
    refine pek_ow 6 ?_
    refine pak_nil ?_
    refine ⟨(u4, b15), _, rfl, (show List.Nodup ([6] : List Nat) by decide), rfl, fun b16 => ?_⟩
    refine psk_cons ?_
    refine ps1_expr ?_
    refine pek_has h_write_entries hr hg body_passes ?_
    refine pak_cons ?_
    refine pek_va 5 ?_
    refine pak_cons ?_
    refine pek_ow 6 ?_
    refine pak_nil ?_
    refine ⟨(u5, b16), _, rfl, (show List.Nodup ([6] : List Nat) by decide), rfl, fun b17 => ?_⟩
    refine psk_cons (ps1_ret ?_)
    refine pek_ty blt_tuple B.tuple ?_
    refine pak_cons ?_
    refine pek_ow 6 ?_
    refine pak_nil ?_
    refine ⟨_, _, rfl, rfl, fun z18 => ?_⟩
    refine ⟨_, rfl, ?_⟩
    exact rt_d rfl
def m_number_at (a : D × D × D × D) : R (D) :=
  R.bif (R.opt (lenD [a.1]) fun z1 =>
  R.ite (geD a.2.1 z1) (
  .ok true) (
  R.opt (ixD a.1 a.2.1) fun z2 =>
  R.ite (leD a.2.2.1 z2) (
  R.ite (leD z2 a.2.2.2) (
  .ok false) (
  .ok true)) (
  .ok true))) (
  .stuck) (
  R.opt (ixD a.1 a.2.1) fun z3 =>
  .ok z3)
theorem cov_number_at : ∀ (a : D × D × D × D) (b : D) (j : Nat) (o : Ob), (ea_number_at a)[j]? = some (.w o) → ∃ o', (j, o') ∈ (erD b).2 := by
  intro a b j o h
  rcases j with _ | _ | _ | _ | j
  · cases h
  · cases h
  · cases h
  · cases h
  · cases h
theorem h_number_at {k : Nat} (hD : DefAt K mg "number_at" s_number_at P_number_at) (B : Bl K w mg) : Has P w K mg base (k + 1) "number_at" P_number_at ea_number_at erD m_number_at := by
  refine Has.mk' (N := N_number_at) hD ⟨rfl, rfl, rfl, by decide +kernel, rfl, by decide +kernel, by decide +kernel⟩ (fun _ => rfl) (cov_number_at) fun f cd A outer s H E W F a hr hg => ?main
  case main =>
    have nd : N_number_at.Nodup := by decide +kernel
    refine psk_cons ?_
    refine ps1_if ?_
    refine ptk_joinB rfl ?_ ?_ ?_
    · refine ptk_pw ?_
      refine pwk_or ?_
      refine ptk_cmp cmp_ge ?_
      refine pek_va 1 ?_
      refine pek_blt blt_len B.len ?_
      refine pak_cons ?_
      refine pek_va 0 ?_
      refine pak_nil ?_
      refine ⟨_, _, rfl, rfl, fun z1 => ?_⟩
      refine AfterC.ite rfl rfl rfl ?_ ?_
      · exact ⟨rfl, rfl⟩
      · refine pwk_or1 ?_
        refine ptk_not ?_
        refine ptk_chain cmp_le cmp_le ?_
        refine pek_va 2 ?_
        refine pek_ix ?_
        refine pek_va 0 ?_
        refine pek_va 1 ?_
        refine ⟨_, _, _, rfl, rfl, rfl, fun z2 => ?_⟩
        refine AfterC.ite rfl rfl rfl ?_ ?_
        · refine pek_va 3 ?_
          refine AfterC.ite rfl rfl rfl ?_ ?_
          · exact ⟨rfl, rfl⟩
          · exact ⟨rfl, rfl⟩
        · exact ⟨rfl, rfl⟩
    · exact psk_stuck
    · refine psk_nil ?_
      refine psk_cons (ps1_ret ?_)
      refine pek_ix ?_
      refine pek_va 0 ?_
      refine pek_va 1 ?_
      refine ⟨_, _, _, rfl, rfl, rfl, fun z3 => ?_⟩
      refine ⟨_, rfl, ?_⟩
      exact rt_d rfl
def m_sign_at (a : D × D) : R (D) :=
  R.bind (m_number_at (a.1, a.2, (.int 0), (.int 255))) fun b1 =>
  R.bif (R.ite (leD (.int 97) b1) (
  R.ite (leD b1 (.int 122)) (
  .ok true) (
  .ok false)) (
  .ok false)) (
  R.opt (subD b1 (.int 97)) fun z2 =>
  R.opt (ixD cSMALL z2) fun z3 =>
  .ok z3) (
  R.bif (R.ite (leD (.int 65) b1) (
  R.ite (leD b1 (.int 90)) (
  .ok true) (
  .ok false)) (
  .ok false)) (
  R.opt (subD b1 (.int 65)) fun z4 =>
  R.opt (ixD cGREAT z4) fun z5 =>
  .ok z5) (
  R.bif (R.ite (leD (.int 48) b1) (
  R.ite (leD b1 (.int 57)) (
  .ok true) (
  .ok false)) (
  .ok false)) (
  R.opt (subD b1 (.int 48)) fun z6 =>
  R.opt (ixD cDIGITS z6) fun z7 =>
  .ok z7) (
  .stuck)))
theorem cov_sign_at : ∀ (a : D × D) (b : D) (j : Nat) (o : Ob), (ea_sign_at a)[j]? = some (.w o) → ∃ o', (j, o') ∈ (erD b).2 := by
  intro a b j o h
  rcases j with _ | _ | j
  · cases h
  · cases h
  · cases h
theorem h_sign_at {k : Nat} (hD : DefAt K mg "sign_at" s_sign_at P_sign_at) (B : Bl K w mg) (h_number_at : Has P w K mg base k "number_at" P_number_at ea_number_at erD m_number_at) : Has P w K mg base (k + 1) "sign_at" P_sign_at ea_sign_at erD m_sign_at := by
  refine Has.mk' (N := N_sign_at) hD ⟨rfl, rfl, rfl, by decide +kernel, rfl, by decide +kernel, by decide +kernel⟩ (fun _ => rfl) (cov_sign_at) fun f cd A outer s H E W F a hr hg => ?main
  case main =>
    have nd : N_sign_at.Nodup := by decide +kernel
    refine psk_cons ?_
    refine ps1_set 2 ?_ nd
    refine pek_has h_number_at hr hg body_passes ?_
    refine pak_cons ?_
    refine pek_va 0 ?_
    refine pak_cons ?_
    refine pek_va 1 ?_
    refine pak_cons ?_
    refine pek_int ?_
    refine pak_cons ?_
    refine pek_cst B.c_MOST ?_
    refine pak_nil ?_
    refine ⟨(a.1, a.2, (.int 0), (.int 255)), _, rfl, (show List.Nodup ([] : List Nat) by decide), rfl, fun b1 => ?_⟩
    refine ⟨_, rfl, ?_⟩
    refine psk_cons ?_
    refine ps1_if ?_
    refine ptk_joinB rfl ?_ ?_ ?_
    · refine ptk_chain cmp_le cmp_le ?_
      refine pek_int ?_
      refine pek_va 2 ?_
      refine AfterC.ite rfl rfl rfl ?_ ?_
      · refine pek_int ?_
        refine AfterC.ite rfl rfl rfl ?_ ?_
        · exact ⟨rfl, rfl⟩
        · exact ⟨rfl, rfl⟩
      · exact ⟨rfl, rfl⟩
    · refine psk_cons (ps1_ret ?_)
      refine pek_ix ?_
      refine pek_cst B.c_SMALL ?_
      refine pek_bin bin_sub ?_
      refine pek_va 2 ?_
      refine pek_int ?_
      refine ⟨_, _, _, rfl, rfl, rfl, fun z2 => ?_⟩
      refine ⟨_, _, _, rfl, rfl, rfl, fun z3 => ?_⟩
      refine ⟨_, rfl, ?_⟩
      exact rt_d rfl
    · refine psk_nil ?_
      refine psk_cons ?_
      refine ps1_if ?_
      refine ptk_joinB rfl ?_ ?_ ?_
      · refine ptk_chain cmp_le cmp_le ?_
        refine pek_int ?_
        refine pek_va 2 ?_
        refine AfterC.ite rfl rfl rfl ?_ ?_
        · refine pek_int ?_
          refine AfterC.ite rfl rfl rfl ?_ ?_
          · exact ⟨rfl, rfl⟩
          · exact ⟨rfl, rfl⟩
        · exact ⟨rfl, rfl⟩
      · refine psk_cons (ps1_ret ?_)
        refine pek_ix ?_
        refine pek_cst B.c_GREAT ?_
        refine pek_bin bin_sub ?_
        refine pek_va 2 ?_
        refine pek_int ?_
        refine ⟨_, _, _, rfl, rfl, rfl, fun z4 => ?_⟩
        refine ⟨_, _, _, rfl, rfl, rfl, fun z5 => ?_⟩
        refine ⟨_, rfl, ?_⟩
        exact rt_d rfl
      · refine psk_nil ?_
        refine psk_cons ?_
        refine ps1_if ?_
        refine ptk_joinB rfl ?_ ?_ ?_
        · refine ptk_chain cmp_le cmp_le ?_
          refine pek_int ?_
          refine pek_va 2 ?_
          refine AfterC.ite rfl rfl rfl ?_ ?_
          · refine pek_int ?_
            refine AfterC.ite rfl rfl rfl ?_ ?_
            · exact ⟨rfl, rfl⟩
            · exact ⟨rfl, rfl⟩
          · exact ⟨rfl, rfl⟩
        · refine psk_cons (ps1_ret ?_)
          refine pek_ix ?_
          refine pek_cst B.c_DIGITS ?_
          refine pek_bin bin_sub ?_
          refine pek_va 2 ?_
          refine pek_int ?_
          refine ⟨_, _, _, rfl, rfl, rfl, fun z6 => ?_⟩
          refine ⟨_, _, _, rfl, rfl, rfl, fun z7 => ?_⟩
          refine ⟨_, rfl, ?_⟩
          exact rt_d rfl
        · refine psk_nil ?_
          exact psk_stuck
def b1_read_name (a : D × D) (y12 : D) (c11 : D) : R (Ct (D)) :=
  R.bind (m_sign_at (a.1, y12)) fun b13 =>
  R.opt (addD c11 b13) fun z14 =>
  .ok (.nx z14)
def m_read_name (a : D × D) : R (D) :=
  R.bind (m_number_at (a.1, a.2, (.int 1), (.int 16))) fun b1 =>
  R.opt (addD a.2 (.int 1)) fun z2 =>
  R.bind (m_number_at (a.1, z2, (.int 97), (.int 122))) fun b3 =>
  R.opt (subD b3 (.int 97)) fun z4 =>
  R.opt (ixD cSMALL z4) fun z5 =>
  R.opt (addD a.2 (.int 2)) fun z6 =>
  R.opt (addD a.2 (.int 1)) fun z7 =>
  R.opt (addD z7 b1) fun z8 =>
  R.opt2 (rg2 [z6, z8]) fun i9 j10 =>
  R.bind (forL (b1_read_name a) (rngD i9 j10) z5) (nxK fun (c15 : D) =>
  R.opt (addD a.2 (.int 1)) fun z16 =>
  R.opt (addD z16 b1) fun z17 =>
  .ok (.tuple [c15, z17]))
theorem cov_read_name : ∀ (a : D × D) (b : D) (j : Nat) (o : Ob), (ea_read_name a)[j]? = some (.w o) → ∃ o', (j, o') ∈ (erD b).2 := by
  intro a b j o h
  rcases j with _ | _ | j
  · cases h
  · cases h
  · cases h
theorem h_read_name {k : Nat} (hD : DefAt K mg "read_name" s_read_name P_read_name) (B : Bl K w mg) (h_number_at : Has P w K mg base k "number_at" P_number_at ea_number_at erD m_number_at) (h_sign_at : Has P w K mg base k "sign_at" P_sign_at ea_sign_at erD m_sign_at) : Has P w K mg base (k + 1) "read_name" P_read_name ea_read_name erD m_read_name := by
  refine Has.mk' (N := N_read_name) hD ⟨rfl, rfl, rfl, by decide +kernel, rfl, by decide +kernel, by decide +kernel⟩ (fun _ => rfl) (cov_read_name) fun f cd A outer s H E W F a hr hg => ?main
  case main =>
    have nd : N_read_name.Nodup := by decide +kernel
    refine psk_cons ?_
    refine ps1_set 2 ?_ nd
    refine pek_has h_number_at hr hg body_passes ?_
    refine pak_cons ?_
    refine pek_va 0 ?_
    refine pak_cons ?_
    refine pek_va 1 ?_
    refine pak_cons ?_
    refine pek_int ?_
    refine pak_cons ?_
    refine pek_cst B.c_MOST_SIGNS ?_
    refine pak_nil ?_
    refine ⟨(a.1, a.2, (.int 1), (.int 16)), _, rfl, (show List.Nodup ([] : List Nat) by decide), rfl, fun b1 => ?_⟩
    refine ⟨_, rfl, ?_⟩
    refine psk_cons ?_
    refine ps1_set 3 ?_ nd
    refine pek_ix ?_
    refine pek_cst B.c_SMALL ?_
    refine pek_bin bin_sub ?_
    refine pek_has h_number_at hr hg body_passes ?_
    refine pak_cons ?_
    refine pek_va 0 ?_
    refine pak_cons ?_
    refine pek_bin bin_add ?_
    refine pek_va 1 ?_
    refine pek_int ?_
    refine ⟨_, _, _, rfl, rfl, rfl, fun z2 => ?_⟩
    refine pak_cons ?_
    refine pek_int ?_
    refine pak_cons ?_
    refine pek_int ?_
    refine pak_nil ?_
    refine ⟨(a.1, z2, (.int 97), (.int 122)), _, rfl, (show List.Nodup ([] : List Nat) by decide), rfl, fun b3 => ?_⟩
    refine pek_int ?_
    refine ⟨_, _, _, rfl, rfl, rfl, fun z4 => ?_⟩
    refine ⟨_, _, _, rfl, rfl, rfl, fun z5 => ?_⟩
    refine ⟨_, rfl, ?_⟩
    refine psk_cons ?_
    refine ps1_forK [4] (fun (c11 : D) => [.va a.1, .va a.2, .va b1, .va c11, .no]) (b1_read_name a) ?_ ?_ body_own rfl
    rotate_left
    · intro y12 c11
      refine pgk_name 4 ?_ nd
      refine psk_cons ?_
      refine ps1_set 3 ?_ nd
      refine pek_bin bin_add ?_
      refine pek_va 3 ?_
      refine pek_has h_sign_at hr hg body_passes ?_
      refine pak_cons ?_
      refine pek_va 0 ?_
      refine pak_cons ?_
      refine pek_va 4 ?_
      refine pak_nil ?_
      refine ⟨(a.1, y12), _, rfl, (show List.Nodup ([] : List Nat) by decide), rfl, fun b13 => ?_⟩
      refine ⟨_, _, _, rfl, rfl, rfl, fun z14 => ?_⟩
      refine ⟨_, rfl, ?_⟩
      refine psk_nil ?_
      exact ⟨z14, (.keep (.keep (.keep (.keep (.drop .nil))))), rfl⟩
    refine pik_r2 B.range ?_
    refine pak_cons ?_
    refine pek_bin bin_add ?_
    refine pek_va 1 ?_
    refine pek_int ?_
    refine ⟨_, _, _, rfl, rfl, rfl, fun z6 => ?_⟩
    refine pak_cons ?_
    refine pek_bin bin_add ?_
    refine pek_bin bin_add ?_
    refine pek_va 1 ?_
    refine pek_int ?_
    refine ⟨_, _, _, rfl, rfl, rfl, fun z7 => ?_⟩
    refine pek_va 2 ?_
    refine ⟨_, _, _, rfl, rfl, rfl, fun z8 => ?_⟩
    refine pak_nil ?_
    refine ⟨_, _, rfl, rfl, fun i9 j10 => ?_⟩
    refine ⟨z5, _, (.keep (.keep (.keep (.keep (.keep .nil))))), rfl, fun c15 => ?_⟩
    refine psk_cons (ps1_ret ?_)
    refine pek_tup ?_
    refine pak_cons ?_
    refine pek_va 3 ?_
    refine pak_cons ?_
    refine pek_bin bin_add ?_
    refine pek_bin bin_add ?_
    refine pek_va 1 ?_
    refine pek_int ?_
    refine ⟨_, _, _, rfl, rfl, rfl, fun z16 => ?_⟩
    refine pek_va 2 ?_
    refine ⟨_, _, _, rfl, rfl, rfl, fun z17 => ?_⟩
    refine pak_nil ?_
    refine ⟨_, rfl, Nat.le_of_ble_eq_true rfl, ?_⟩
    refine ⟨_, rfl, ?_⟩
    exact rt_d rfl
def b1_read_arguments (q_read_term : D × D × D → R (D)) (a : D × D × D × D × D) (y4 : D) (c3 : D × D) : R (Ct (D × D)) :=
  R.bind (q_read_term (a.1, c3.1, a.2.2.2.2)) fun b5 =>
  R.opt2 (un2 b5) fun u6 u7 =>
  R.opt (addD c3.2 (.tuple [u6])) fun z8 =>
  .ok (.nx (u7, z8))
def g_read_arguments (q_read_term : D × D × D → R (D)) (a : D × D × D × D × D) : R (D) :=
  R.opt2 (rg1 [a.2.2.2.1]) fun i1 j2 =>
  R.bind (forL (b1_read_arguments q_read_term a) (rngD i1 j2) (a.2.1, a.2.2.1)) (nxK fun (c9 : D × D) =>
  .ok (.tuple [c9.2, c9.1]))
theorem cov_read_arguments : ∀ (a : D × D × D × D × D) (b : D) (j : Nat) (o : Ob), (ea_read_arguments a)[j]? = some (.w o) → ∃ o', (j, o') ∈ (erD b).2 := by
  intro a b j o h
  rcases j with _ | _ | _ | _ | _ | j
  · cases h
  · cases h
  · cases h
  · cases h
  · cases h
  · cases h
theorem hg_read_arguments {k : Nat} (hD : DefAt K mg "read_arguments" s_read_arguments P_read_arguments) (B : Bl K w mg) {q_read_term : D × D × D → R (D)} (h_read_term : Has P w K mg base k "read_term" P_read_term ea_read_term erD q_read_term) : Has P w K mg base (k + 1) "read_arguments" P_read_arguments ea_read_arguments erD (g_read_arguments q_read_term) := by
  refine Has.mk' (N := N_read_arguments) hD ⟨rfl, rfl, rfl, by decide +kernel, rfl, by decide +kernel, by decide +kernel⟩ (fun _ => rfl) (cov_read_arguments) fun f cd A outer s H E W F a hr hg => ?main
  case main =>
    have nd : N_read_arguments.Nodup := by decide +kernel
    refine psk_cons ?_
    refine ps1_forK [5] (fun (c3 : D × D) => [.va a.1, .va c3.1, .va c3.2, .va a.2.2.2.1, .va a.2.2.2.2, .no, .no]) (b1_read_arguments q_read_term a) ?_ ?_ body_own rfl
    rotate_left
    · intro y4 c3
      refine pgk_name 5 ?_ nd
      refine psk_cons ?_
      refine ps1_asg [6, 1] ?_
      refine pek_has h_read_term hr hg body_passes ?_
      refine pak_cons ?_
      refine pek_va 0 ?_
      refine pak_cons ?_
      refine pek_va 1 ?_
      refine pak_cons ?_
      refine pek_va 4 ?_
      refine pak_nil ?_
      refine ⟨(a.1, c3.1, a.2.2.2.2), _, rfl, (show List.Nodup ([] : List Nat) by decide), rfl, fun b5 => ?_⟩
      refine ⟨_, rfl, ?_⟩
      refine pgk_t2 ⟨_, rfl, fun u6 u7 => ?_⟩ rfl
      refine pgsk_cons ?_
      refine pgk_name 6 ?_ nd
      refine pgsk_cons ?_
      refine pgk_name 1 ?_ nd
      refine pgsk_nil ?_
      refine psk_cons ?_
      refine ps1_set 2 ?_ nd
      refine pek_bin bin_add ?_
      refine pek_va 2 ?_
      refine pek_tup ?_
      refine pak_cons ?_
      refine pek_va 6 ?_
      refine pak_nil ?_
      refine ⟨_, rfl, Nat.le_of_ble_eq_true rfl, ?_⟩
      refine ⟨_, _, _, rfl, rfl, rfl, fun z8 => ?_⟩
      refine ⟨_, rfl, ?_⟩
      refine psk_nil ?_
      exact ⟨(u7, z8), (.keep (.keep (.keep (.keep (.keep (.drop (.drop .nil))))))), rfl⟩
    refine pik_r1 B.range ?_
    refine pak_cons ?_
    refine pek_va 3 ?_
    refine pak_nil ?_
    refine ⟨_, _, rfl, rfl, fun i1 j2 => ?_⟩
    refine ⟨(a.2.1, a.2.2.1), _, (.keep (.keep (.keep (.keep (.keep (.keep (.keep .nil))))))), rfl, fun c9 => ?_⟩
    refine psk_cons (ps1_ret ?_)
    refine pek_tup ?_
    refine pak_cons ?_
    refine pek_va 2 ?_
    refine pak_cons ?_
    refine pek_va 1 ?_
    refine pak_nil ?_
    refine ⟨_, rfl, Nat.le_of_ble_eq_true rfl, ?_⟩
    refine ⟨_, rfl, ?_⟩
    exact rt_d rfl
def g_read_term (q_read_arguments : D × D × D × D × D → R (D)) (a : D × D × D) : R (D) :=
  R.bind (R.ite (eqD a.2.2 (.int 20)) (
  .ok (.nx (.int 1))) (
  .ok (.nx (.int 9)))) (nxK fun (c1 : D) =>
  R.bind (m_number_at (a.1, a.2.1, (.int 0), c1)) fun b2 =>
  R.ite (eqD b2 (.int 0)) (
  R.opt (addD a.2.1 (.int 1)) fun z3 =>
  R.bind (m_number_at (a.1, z3, (.int 0), (.int 255))) fun b4 =>
  R.opt (addD a.2.1 (.int 2)) fun z5 =>
  R.bind (m_number_at (a.1, z5, (.int 0), (.int 255))) fun b6 =>
  R.opt (mulD b4 (.int 256)) fun z7 =>
  R.opt (addD z7 b6) fun z8 =>
  R.opt (addD a.2.1 (.int 3)) fun z9 =>
  .ok (.tuple [z8, z9])) (
  R.opt (addD a.2.1 (.int 1)) fun z10 =>
  R.bind (m_read_name (a.1, z10)) fun b11 =>
  R.opt2 (un2 b11) fun u12 u13 =>
  R.opt (subD b2 (.int 1)) fun z14 =>
  R.opt (addD a.2.2 (.int 1)) fun z15 =>
  R.bind (q_read_arguments (a.1, u13, (.tuple [u12]), z14, z15)) fun b16 =>
  .ok b16))
theorem cov_read_term : ∀ (a : D × D × D) (b : D) (j : Nat) (o : Ob), (ea_read_term a)[j]? = some (.w o) → ∃ o', (j, o') ∈ (erD b).2 := by
  intro a b j o h
  rcases j with _ | _ | _ | j
  · cases h
  · cases h
  · cases h
  · cases h
theorem hg_read_term {k : Nat} (hk : 7 ≤ k) (hD : DefAt K mg "read_term" s_read_term P_read_term) (B : Bl K w mg) {q_read_arguments : D × D × D × D × D → R (D)} (h_number_at : Has P w K mg base k "number_at" P_number_at ea_number_at erD m_number_at) (h_read_name : Has P w K mg base k "read_name" P_read_name ea_read_name erD m_read_name) (h_read_arguments : Has P w K mg base k "read_arguments" P_read_arguments ea_read_arguments erD q_read_arguments) : Has P w K mg base (k + 1) "read_term" P_read_term ea_read_term erD (g_read_term q_read_arguments) := by
  refine Has.mk' (N := N_read_term) hD ⟨rfl, rfl, rfl, by decide +kernel, rfl, by decide +kernel, by decide +kernel⟩ (fun _ => rfl) (cov_read_term) fun f cd A outer s H E W F a hr hg => ?main
  case main =>
    have nd : N_read_term.Nodup := by decide +kernel
    have hu := room_eq hr hk
    refine psk_cons ?_
    refine ps1_set 3 ?_ nd
    refine pek_cst B.c_MOST_PLACES ?_
    refine ⟨_, rfl, ?_⟩
    refine psk_cons ?_
    refine ps1_joinK (fun (c1 : D) => [.va a.1, .va a.2.1, .va a.2.2, .va c1, .no, .no, .no, .no]) rfl ?_ (fun c1 => ?_)
    · refine ps1_if ?_
      refine ptk_cmp (cmp_eq hu) ?_
      refine pek_va 2 ?_
      refine pek_cst B.c_MOST_TERM_DEPTH ?_
      refine AfterC.ite rfl rfl rfl ?_ ?_
      · refine psk_cons ?_
        refine ps1_set 3 ?_ nd
        refine pek_int ?_
        refine ⟨_, rfl, ?_⟩
        refine psk_nil ?_
        exact ⟨(.int 1), (.keep (.keep (.keep (.keep (.keep (.keep (.keep (.keep .nil)))))))), rfl⟩
      · refine psk_nil ?_
        exact ⟨(.int 9), (.keep (.keep (.keep (.keep (.keep (.keep (.keep (.keep .nil)))))))), rfl⟩
    refine psk_cons ?_
    refine ps1_set 4 ?_ nd
    refine pek_has h_number_at hr hg body_passes ?_
    refine pak_cons ?_
    refine pek_va 0 ?_
    refine pak_cons ?_
    refine pek_va 1 ?_
    refine pak_cons ?_
    refine pek_int ?_
    refine pak_cons ?_
    refine pek_va 3 ?_
    refine pak_nil ?_
    refine ⟨(a.1, a.2.1, (.int 0), c1), _, rfl, (show List.Nodup ([] : List Nat) by decide), rfl, fun b2 => ?_⟩
    refine ⟨_, rfl, ?_⟩
    refine psk_cons ?_
    refine ps1_if ?_
    refine ptk_cmp (cmp_eq hu) ?_
    refine pek_va 4 ?_
    refine pek_int ?_
    refine AfterC.ite rfl rfl rfl ?_ ?_
    · refine psk_cons ?_
      refine ps1_set 5 ?_ nd
      refine pek_has h_number_at hr hg body_passes ?_
      refine pak_cons ?_
      refine pek_va 0 ?_
      refine pak_cons ?_
      refine pek_bin bin_add ?_
      refine pek_va 1 ?_
      refine pek_int ?_
      refine ⟨_, _, _, rfl, rfl, rfl, fun z3 => ?_⟩
      refine pak_cons ?_
      refine pek_int ?_
      refine pak_cons ?_
      refine pek_cst B.c_MOST ?_
      refine pak_nil ?_
      refine ⟨(a.1, z3, (.int 0), (.int 255)), _, rfl, (show List.Nodup ([] : List Nat) by decide), rfl, fun b4 => ?_⟩
      refine ⟨_, rfl, ?_⟩
      refine psk_cons ?_
      refine ps1_set 6 ?_ nd
      refine pek_has h_number_at hr hg body_passes ?_
      refine pak_cons ?_
      refine pek_va 0 ?_
      refine pak_cons ?_
      refine pek_bin bin_add ?_
      refine pek_va 1 ?_
      refine pek_int ?_
      refine ⟨_, _, _, rfl, rfl, rfl, fun z5 => ?_⟩
      refine pak_cons ?_
      refine pek_int ?_
      refine pak_cons ?_
      refine pek_cst B.c_MOST ?_
      refine pak_nil ?_
      refine ⟨(a.1, z5, (.int 0), (.int 255)), _, rfl, (show List.Nodup ([] : List Nat) by decide), rfl, fun b6 => ?_⟩
      refine ⟨_, rfl, ?_⟩
      refine psk_cons (ps1_ret ?_)
      refine pek_tup ?_
      refine pak_cons ?_
      refine pek_bin bin_add ?_
      refine pek_bin bin_mul ?_
      refine pek_va 5 ?_
      refine pek_int ?_
      refine ⟨_, _, _, rfl, rfl, rfl, fun z7 => ?_⟩
      refine pek_va 6 ?_
      refine ⟨_, _, _, rfl, rfl, rfl, fun z8 => ?_⟩
      refine pak_cons ?_
      refine pek_bin bin_add ?_
      refine pek_va 1 ?_
      refine pek_int ?_
      refine ⟨_, _, _, rfl, rfl, rfl, fun z9 => ?_⟩
      refine pak_nil ?_
      refine ⟨_, rfl, Nat.le_of_ble_eq_true rfl, ?_⟩
      refine ⟨_, rfl, ?_⟩
      exact rt_d rfl
    · refine psk_nil ?_
      refine psk_cons ?_
      refine ps1_asg [7, 1] ?_
      refine pek_has h_read_name hr hg body_passes ?_
      refine pak_cons ?_
      refine pek_va 0 ?_
      refine pak_cons ?_
      refine pek_bin bin_add ?_
      refine pek_va 1 ?_
      refine pek_int ?_
      refine ⟨_, _, _, rfl, rfl, rfl, fun z10 => ?_⟩
      refine pak_nil ?_
      refine ⟨(a.1, z10), _, rfl, (show List.Nodup ([] : List Nat) by decide), rfl, fun b11 => ?_⟩
      refine ⟨_, rfl, ?_⟩
      refine pgk_t2 ⟨_, rfl, fun u12 u13 => ?_⟩ rfl
      refine pgsk_cons ?_
      refine pgk_name 7 ?_ nd
      refine pgsk_cons ?_
      refine pgk_name 1 ?_ nd
      refine pgsk_nil ?_
      refine psk_cons (ps1_ret ?_)
      refine pek_has h_read_arguments hr hg body_passes ?_
      refine pak_cons ?_
      refine pek_va 0 ?_
      refine pak_cons ?_
      refine pek_va 1 ?_
      refine pak_cons ?_
      refine pek_tup ?_
      refine pak_cons ?_
      refine pek_va 7 ?_
      refine pak_nil ?_
      refine ⟨_, rfl, Nat.le_of_ble_eq_true rfl, ?_⟩
      refine pak_cons ?_
      refine pek_bin bin_sub ?_
      refine pek_va 4 ?_
      refine pek_int ?_
      refine ⟨_, _, _, rfl, rfl, rfl, fun z14 => ?_⟩
      refine pak_cons ?_
      refine pek_bin bin_add ?_
      refine pek_va 2 ?_
      refine pek_int ?_
      refine ⟨_, _, _, rfl, rfl, rfl, fun z15 => ?_⟩
      refine pak_nil ?_
      refine ⟨(a.1, u13, (.tuple [u12]), z14, z15), _, rfl, (show List.Nodup ([] : List Nat) by decide), rfl, fun b16 => ?_⟩
      refine ⟨_, rfl, ?_⟩
      exact rt_d rfl
def m_read_term : Nat → D × D × D → R D
  | 0 => fun _ => .stuck
  | n + 1 => g_read_term (g_read_arguments (m_read_term n))
def m_read_arguments (n : Nat) : D × D × D × D × D → R D := g_read_arguments (m_read_term n)
def m_read_atom (a : D × D) : R (D) :=
  R.bind (m_number_at (a.1, a.2, (.int 1), (.int 9))) fun b1 =>
  R.bif (R.ite (eqD b1 (.int 3)) (
  R.opt (addD a.2 (.int 1)) fun z2 =>
  R.opt (asInt z2) fun z3 =>
  R.opt (addD a.2 (.int 3)) fun z4 =>
  R.opt (asInt z4) fun z5 =>
  R.opt (slD a.1 (some z3) (some z5)) fun z6 =>
  R.ite (eqD z6 (.tuple [(.int 1), (.int 61)])) (
  .ok true) (
  .ok false)) (
  .ok false)) (
  R.opt (addD a.2 (.int 3)) fun z7 =>
  R.bind ((m_read_arguments 24) (a.1, z7, (.tuple [(.str "=")]), (.int 2), (.int 2))) fun b8 =>
  .ok b8) (
  R.opt (addD a.2 (.int 1)) fun z9 =>
  R.bind (m_read_name (a.1, z9)) fun b10 =>
  R.opt2 (un2 b10) fun u11 u12 =>
  R.opt (subD b1 (.int 1)) fun z13 =>
  R.bind ((m_read_arguments 24) (a.1, u12, (.tuple [u11]), z13, (.int 2))) fun b14 =>
  .ok b14)
theorem cov_read_atom : ∀ (a : D × D) (b : D) (j : Nat) (o : Ob), (ea_read_atom a)[j]? = some (.w o) → ∃ o', (j, o') ∈ (erD b).2 := by
  intro a b j o h
  rcases j with _ | _ | j
  · cases h
  · cases h
  · cases h
theorem h_read_atom {k : Nat} (hk : 7 ≤ k) (hD : DefAt K mg "read_atom" s_read_atom P_read_atom) (B : Bl K w mg) (h_number_at : Has P w K mg base k "number_at" P_number_at ea_number_at erD m_number_at) (h_read_arguments : Has P w K mg base k "read_arguments" P_read_arguments ea_read_arguments erD (m_read_arguments 24)) (h_read_name : Has P w K mg base k "read_name" P_read_name ea_read_name erD m_read_name) : Has P w K mg base (k + 1) "read_atom" P_read_atom ea_read_atom erD m_read_atom := by
  refine Has.mk' (N := N_read_atom) hD ⟨rfl, rfl, rfl, by decide +kernel, rfl, by decide +kernel, by decide +kernel⟩ (fun _ => rfl) (cov_read_atom) fun f cd A outer s H E W F a hr hg => ?main
  case main =>
    have nd : N_read_atom.Nodup := by decide +kernel
    have hu := room_eq hr hk
    refine psk_cons ?_
    refine ps1_set 2 ?_ nd
    refine pek_has h_number_at hr hg body_passes ?_
    refine pak_cons ?_
    refine pek_va 0 ?_
    refine pak_cons ?_
    refine pek_va 1 ?_
    refine pak_cons ?_
    refine pek_int ?_
    refine pak_cons ?_
    refine pek_cst B.c_MOST_PLACES ?_
    refine pak_nil ?_
    refine ⟨(a.1, a.2, (.int 1), (.int 9)), _, rfl, (show List.Nodup ([] : List Nat) by decide), rfl, fun b1 => ?_⟩
    refine ⟨_, rfl, ?_⟩
    refine psk_cons ?_
    refine ps1_if ?_
    refine ptk_joinB rfl ?_ ?_ ?_
    · refine ptk_pw ?_
      refine pwk_and ?_
      refine ptk_cmp (cmp_eq hu) ?_
      refine pek_va 2 ?_
      refine pek_int ?_
      refine AfterC.ite rfl rfl rfl ?_ ?_
      · refine pwk_and1 ?_
        refine ptk_cmp (cmp_eq hu) ?_
        refine pek_sl ?_
        refine pek_va 0 ?_
        refine pok_s ?_
        refine pek_bin bin_add ?_
        refine pek_va 1 ?_
        refine pek_int ?_
        refine ⟨_, _, _, rfl, rfl, rfl, fun z2 => ?_⟩
        refine ⟨_, _, rfl, rfl, fun z3 => ?_⟩
        refine pok_s ?_
        refine pek_bin bin_add ?_
        refine pek_va 1 ?_
        refine pek_int ?_
        refine ⟨_, _, _, rfl, rfl, rfl, fun z4 => ?_⟩
        refine ⟨_, _, rfl, rfl, fun z5 => ?_⟩
        refine ⟨_, _, rfl, rfl, fun z6 => ?_⟩
        refine pek_tup ?_
        refine pak_cons ?_
        refine pek_int ?_
        refine pak_cons ?_
        refine pek_int ?_
        refine pak_nil ?_
        refine ⟨_, rfl, Nat.le_of_ble_eq_true rfl, ?_⟩
        refine AfterC.ite rfl rfl rfl ?_ ?_
        · exact ⟨rfl, rfl⟩
        · exact ⟨rfl, rfl⟩
      · exact ⟨rfl, rfl⟩
    · refine psk_cons (ps1_ret ?_)
      refine pek_has h_read_arguments hr hg body_passes ?_
      refine pak_cons ?_
      refine pek_va 0 ?_
      refine pak_cons ?_
      refine pek_bin bin_add ?_
      refine pek_va 1 ?_
      refine pek_int ?_
      refine ⟨_, _, _, rfl, rfl, rfl, fun z7 => ?_⟩
      refine pak_cons ?_
      refine pek_tup ?_
      refine pak_cons ?_
      refine pek_str ?_
      refine pak_nil ?_
      refine ⟨_, rfl, Nat.le_of_ble_eq_true rfl, ?_⟩
      refine pak_cons ?_
      refine pek_int ?_
      refine pak_cons ?_
      refine pek_int ?_
      refine pak_nil ?_
      refine ⟨(a.1, z7, (.tuple [(.str "=")]), (.int 2), (.int 2)), _, rfl, (show List.Nodup ([] : List Nat) by decide), rfl, fun b8 => ?_⟩
      refine ⟨_, rfl, ?_⟩
      exact rt_d rfl
    · refine psk_nil ?_
      refine psk_cons ?_
      refine ps1_asg [3, 1] ?_
      refine pek_has h_read_name hr hg body_passes ?_
      refine pak_cons ?_
      refine pek_va 0 ?_
      refine pak_cons ?_
      refine pek_bin bin_add ?_
      refine pek_va 1 ?_
      refine pek_int ?_
      refine ⟨_, _, _, rfl, rfl, rfl, fun z9 => ?_⟩
      refine pak_nil ?_
      refine ⟨(a.1, z9), _, rfl, (show List.Nodup ([] : List Nat) by decide), rfl, fun b10 => ?_⟩
      refine ⟨_, rfl, ?_⟩
      refine pgk_t2 ⟨_, rfl, fun u11 u12 => ?_⟩ rfl
      refine pgsk_cons ?_
      refine pgk_name 3 ?_ nd
      refine pgsk_cons ?_
      refine pgk_name 1 ?_ nd
      refine pgsk_nil ?_
      refine psk_cons (ps1_ret ?_)
      refine pek_has h_read_arguments hr hg body_passes ?_
      refine pak_cons ?_
      refine pek_va 0 ?_
      refine pak_cons ?_
      refine pek_va 1 ?_
      refine pak_cons ?_
      refine pek_tup ?_
      refine pak_cons ?_
      refine pek_va 3 ?_
      refine pak_nil ?_
      refine ⟨_, rfl, Nat.le_of_ble_eq_true rfl, ?_⟩
      refine pak_cons ?_
      refine pek_bin bin_sub ?_
      refine pek_va 2 ?_
      refine pek_int ?_
      refine ⟨_, _, _, rfl, rfl, rfl, fun z13 => ?_⟩
      refine pak_cons ?_
      refine pek_int ?_
      refine pak_nil ?_
      refine ⟨(a.1, u12, (.tuple [u11]), z13, (.int 2)), _, rfl, (show List.Nodup ([] : List Nat) by decide), rfl, fun b14 => ?_⟩
      refine ⟨_, rfl, ?_⟩
      exact rt_d rfl
def m_read_terms (a : D × D) : R (D) :=
  R.bind (m_number_at (a.1, a.2, (.int 0), (.int 255))) fun b1 =>
  R.opt (addD a.2 (.int 1)) fun z2 =>
  R.bind ((m_read_arguments 24) (a.1, z2, (.tuple []), b1, (.int 1))) fun b3 =>
  .ok b3
theorem cov_read_terms : ∀ (a : D × D) (b : D) (j : Nat) (o : Ob), (ea_read_terms a)[j]? = some (.w o) → ∃ o', (j, o') ∈ (erD b).2 := by
  intro a b j o h
  rcases j with _ | _ | j
  · cases h
  · cases h
  · cases h
theorem h_read_terms {k : Nat} (hD : DefAt K mg "read_terms" s_read_terms P_read_terms) (B : Bl K w mg) (h_number_at : Has P w K mg base k "number_at" P_number_at ea_number_at erD m_number_at) (h_read_arguments : Has P w K mg base k "read_arguments" P_read_arguments ea_read_arguments erD (m_read_arguments 24)) : Has P w K mg base (k + 1) "read_terms" P_read_terms ea_read_terms erD m_read_terms := by
  refine Has.mk' (N := N_read_terms) hD ⟨rfl, rfl, rfl, by decide +kernel, rfl, by decide +kernel, by decide +kernel⟩ (fun _ => rfl) (cov_read_terms) fun f cd A outer s H E W F a hr hg => ?main
  case main =>
    have nd : N_read_terms.Nodup := by decide +kernel
    refine psk_cons ?_
    refine ps1_set 2 ?_ nd
    refine pek_has h_number_at hr hg body_passes ?_
    refine pak_cons ?_
    refine pek_va 0 ?_
    refine pak_cons ?_
    refine pek_va 1 ?_
    refine pak_cons ?_
    refine pek_int ?_
    refine pak_cons ?_
    refine pek_cst B.c_MOST ?_
    refine pak_nil ?_
    refine ⟨(a.1, a.2, (.int 0), (.int 255)), _, rfl, (show List.Nodup ([] : List Nat) by decide), rfl, fun b1 => ?_⟩
    refine ⟨_, rfl, ?_⟩
    refine psk_cons (ps1_ret ?_)
    refine pek_has h_read_arguments hr hg body_passes ?_
    refine pak_cons ?_
    refine pek_va 0 ?_
    refine pak_cons ?_
    refine pek_bin bin_add ?_
    refine pek_va 1 ?_
    refine pek_int ?_
    refine ⟨_, _, _, rfl, rfl, rfl, fun z2 => ?_⟩
    refine pak_cons ?_
    refine pek_tup ?_
    refine pak_nil ?_
    refine ⟨_, rfl, Nat.le_of_ble_eq_true rfl, ?_⟩
    refine pak_cons ?_
    refine pek_va 2 ?_
    refine pak_cons ?_
    refine pek_int ?_
    refine pak_nil ?_
    refine ⟨(a.1, z2, (.tuple []), b1, (.int 1)), _, rfl, (show List.Nodup ([] : List Nat) by decide), rfl, fun b3 => ?_⟩
    refine ⟨_, rfl, ?_⟩
    exact rt_d rfl
def b1_read_atoms (a : D × D) (y6 : D) (c5 : D × List D) : R (Ct (D × List D)) :=
  R.bind (m_read_atom (a.1, c5.1)) fun b7 =>
  R.opt2 (un2 b7) fun u8 u9 =>
  R.opt (apD c5.2 u8) fun z10 =>
  .ok (.nx (u9, z10))
def m_read_atoms (a : D × D) : R (D) :=
  R.bind (m_number_at (a.1, a.2, (.int 0), (.int 255))) fun b1 =>
  R.opt (addD a.2 (.int 1)) fun z2 =>
  R.opt2 (rg1 [b1]) fun i3 j4 =>
  R.bind (forL (b1_read_atoms a) (rngD i3 j4) (z2, [])) (nxK fun (c11 : D × List D) =>
  R.opt (tupleD [(.list c11.2)]) fun z12 =>
  .ok (.tuple [z12, c11.1]))
theorem cov_read_atoms : ∀ (a : D × D) (b : D) (j : Nat) (o : Ob), (ea_read_atoms a)[j]? = some (.w o) → ∃ o', (j, o') ∈ (erD b).2 := by
  intro a b j o h
  rcases j with _ | _ | j
  · cases h
  · cases h
  · cases h
theorem h_read_atoms {k : Nat} (hD : DefAt K mg "read_atoms" s_read_atoms P_read_atoms) (B : Bl K w mg) (h_number_at : Has P w K mg base k "number_at" P_number_at ea_number_at erD m_number_at) (h_read_atom : Has P w K mg base k "read_atom" P_read_atom ea_read_atom erD m_read_atom) : Has P w K mg base (k + 1) "read_atoms" P_read_atoms ea_read_atoms erD m_read_atoms := by
  refine Has.mk' (N := N_read_atoms) hD ⟨rfl, rfl, rfl, by decide +kernel, rfl, by decide +kernel, by decide +kernel⟩ (fun _ => rfl) (cov_read_atoms) fun f cd A outer s H E W F a hr hg => ?main
  case main =>
    have nd : N_read_atoms.Nodup := by decide +kernel
    refine psk_cons ?_
    refine ps1_set 2 ?_ nd
    refine pek_has h_number_at hr hg body_passes ?_
    refine pak_cons ?_
    refine pek_va 0 ?_
    refine pak_cons ?_
    refine pek_va 1 ?_
    refine pak_cons ?_
    refine pek_int ?_
    refine pak_cons ?_
    refine pek_cst B.c_MOST ?_
    refine pak_nil ?_
    refine ⟨(a.1, a.2, (.int 0), (.int 255)), _, rfl, (show List.Nodup ([] : List Nat) by decide), rfl, fun b1 => ?_⟩
    refine ⟨_, rfl, ?_⟩
    refine psk_cons ?_
    refine ps1_set 1 ?_ nd
    refine pek_bin bin_add ?_
    refine pek_va 1 ?_
    refine pek_int ?_
    refine ⟨_, _, _, rfl, rfl, rfl, fun z2 => ?_⟩
    refine ⟨_, rfl, ?_⟩
    refine psk_cons ?_
    refine ps1_setO 3 ?_ nd
    refine pek_lst ?_
    refine pak_nil ?_
    refine ⟨_, rfl, Nat.le_of_ble_eq_true rfl, ?_⟩
    refine ⟨_, rfl, ?_⟩
    refine psk_cons ?_
    refine ps1_forK [4] (fun (c5 : D × List D) => [.va a.1, .va c5.1, .va b1, .ow none (.ls c5.2), .no, .no]) (b1_read_atoms a) ?_ ?_ body_own rfl
    rotate_left
    · intro y6 c5
      refine pgk_name 4 ?_ nd
      refine psk_cons ?_
      refine ps1_asg [5, 1] ?_
      refine pek_has h_read_atom hr hg body_passes ?_
      refine pak_cons ?_
      refine pek_va 0 ?_
      refine pak_cons ?_
      refine pek_va 1 ?_
      refine pak_nil ?_
      refine ⟨(a.1, c5.1), _, rfl, (show List.Nodup ([] : List Nat) by decide), rfl, fun b7 => ?_⟩
      refine ⟨_, rfl, ?_⟩
      refine pgk_t2 ⟨_, rfl, fun u8 u9 => ?_⟩ rfl
      refine pgsk_cons ?_
      refine pgk_name 5 ?_ nd
      refine pgsk_cons ?_
      refine pgk_name 1 ?_ nd
      refine pgsk_nil ?_
      refine psk_cons ?_
      refine ps1_append 3 ⟨_, _, rfl, ?_⟩
      refine pek_va 5 ?_
      refine ⟨_, _, _, _, rfl, rfl, rfl, fun z10 => ?_⟩
      refine psk_nil ?_
      exact ⟨(u9, z10), (.keep (.keep (.keep (.keep (.drop (.drop .nil)))))), rfl⟩
    refine pik_r1 B.range ?_
    refine pak_cons ?_
    refine pek_va 2 ?_
    refine pak_nil ?_
    refine ⟨_, _, rfl, rfl, fun i3 j4 => ?_⟩
    refine ⟨(z2, []), _, (.keep (.keep (.keep (.keep (.keep (.keep .nil)))))), rfl, fun c11 => ?_⟩
    refine psk_cons (ps1_ret ?_)
    refine pek_tup ?_
    refine pak_cons ?_
    refine pek_ty blt_tuple B.tuple ?_
    refine pak_cons ?_
    refine pek_ow 3 ?_
    refine pak_nil ?_
    refine ⟨_, _, rfl, rfl, fun z12 => ?_⟩
    refine pak_cons ?_
    refine pek_va 1 ?_
    refine pak_nil ?_
    refine ⟨_, rfl, Nat.le_of_ble_eq_true rfl, ?_⟩
    refine ⟨_, rfl, ?_⟩
    exact rt_d rfl
def b1_read_numbers (a : D × D) (y5 : D) (c4 : Unit) : R (D × Unit) :=
  R.opt (addD a.2 (.int 1)) fun z8 =>
  R.opt (addD z8 y5) fun z9 =>
  R.bind (m_number_at (a.1, z9, (.int 0), (.int 255))) fun b10 =>
  .ok (b10, ())
def m_read_numbers (a : D × D) : R (D) :=
  R.bind (m_number_at (a.1, a.2, (.int 0), (.int 255))) fun b1 =>
  R.opt2 (rg1 [b1]) fun i2 j3 =>
  R.bind2 (lcL (b1_read_numbers a) (rngD i2 j3) () []) fun l11 c12 =>
  R.opt (tupleD [(.list l11)]) fun z13 =>
  R.opt (addD a.2 (.int 1)) fun z14 =>
  R.opt (addD z14 b1) fun z15 =>
  .ok (.tuple [z13, z15])
theorem cov_read_numbers : ∀ (a : D × D) (b : D) (j : Nat) (o : Ob), (ea_read_numbers a)[j]? = some (.w o) → ∃ o', (j, o') ∈ (erD b).2 := by
  intro a b j o h
  rcases j with _ | _ | j
  · cases h
  · cases h
  · cases h
theorem h_read_numbers {k : Nat} (hD : DefAt K mg "read_numbers" s_read_numbers P_read_numbers) (B : Bl K w mg) (h_number_at : Has P w K mg base k "number_at" P_number_at ea_number_at erD m_number_at) : Has P w K mg base (k + 1) "read_numbers" P_read_numbers ea_read_numbers erD m_read_numbers := by
  refine Has.mk' (N := N_read_numbers) hD ⟨rfl, rfl, rfl, by decide +kernel, rfl, by decide +kernel, by decide +kernel⟩ (fun _ => rfl) (cov_read_numbers) fun f cd A outer s H E W F a hr hg => ?main
  case main =>
    have nd : N_read_numbers.Nodup := by decide +kernel
    refine psk_cons ?_
    refine ps1_set 2 ?_ nd
    refine pek_has h_number_at hr hg body_passes ?_
    refine pak_cons ?_
    refine pek_va 0 ?_
    refine pak_cons ?_
    refine pek_va 1 ?_
    refine pak_cons ?_
    refine pek_int ?_
    refine pak_cons ?_
    refine pek_cst B.c_MOST ?_
    refine pak_nil ?_
    refine ⟨(a.1, a.2, (.int 0), (.int 255)), _, rfl, (show List.Nodup ([] : List Nat) by decide), rfl, fun b1 => ?_⟩
    refine ⟨_, rfl, ?_⟩
    refine psk_cons ?_
    refine ps1_setLcK 3 [("k", 4)] (fun (c4 : Unit) => [.va a.1, .va a.2, .va b1, .no, .no]) (b1_read_numbers a) ?_ ?_ (by intro c j hj; simp at hj; subst hj; rfl) nd rfl (show BlkOk N_read_numbers (defScope s_read_numbers) _ _ from ⟨rfl, by decide +kernel, by decide +kernel, by decide +kernel, by decide +kernel⟩) (by rfl)
    rotate_left
    · intro s' H' Ca cl fp y5 c4
      refine pgk_name 4 ?_ nd
      intro s2 H2 Ca2 cl2 fp2
      refine pek_has h_number_at hr hg blk_passes ?_
      refine pak_cons ?_
      refine pek_va 0 ?_
      refine pak_cons ?_
      refine pek_bin bin_add ?_
      refine pek_bin bin_add ?_
      refine pek_va 1 ?_
      refine pek_int ?_
      refine ⟨_, _, _, rfl, rfl, rfl, fun z8 => ?_⟩
      refine pek_va 4 ?_
      refine ⟨_, _, _, rfl, rfl, rfl, fun z9 => ?_⟩
      refine pak_cons ?_
      refine pek_int ?_
      refine pak_cons ?_
      refine pek_cst B.c_MOST ?_
      refine pak_nil ?_
      refine ⟨(a.1, z9, (.int 0), (.int 255)), _, rfl, (show List.Nodup ([] : List Nat) by decide), rfl, fun b10 => ?_⟩
      exact ⟨_, (), rfl, (.keep (.keep (.keep (.keep (.drop .nil))))), rfl⟩
    refine pik_r1 B.range ?_
    refine pak_cons ?_
    refine pek_va 2 ?_
    refine pak_nil ?_
    refine ⟨_, _, rfl, rfl, fun i2 j3 => ?_⟩
    refine ⟨(), _, (.keep (.keep (.keep (.keep (.keep .nil))))), rfl, fun l11 c12 => ?_⟩
    refine psk_fz 3 ?_
    refine psk_cons (ps1_ret ?_)
    refine pek_tup ?_
    refine pak_cons ?_
    refine pek_ty blt_tuple B.tuple ?_
    refine pak_cons ?_
    refine pek_va 3 ?_
    refine pak_nil ?_
    refine ⟨_, _, rfl, rfl, fun z13 => ?_⟩
    refine pak_cons ?_
    refine pek_bin bin_add ?_
    refine pek_bin bin_add ?_
    refine pek_va 1 ?_
    refine pek_int ?_
    refine ⟨_, _, _, rfl, rfl, rfl, fun z14 => ?_⟩
    refine pek_va 2 ?_
    refine ⟨_, _, _, rfl, rfl, rfl, fun z15 => ?_⟩
    refine pak_nil ?_
    refine ⟨_, rfl, Nat.le_of_ble_eq_true rfl, ?_⟩
    refine ⟨_, rfl, ?_⟩
    exact rt_d rfl
def m_read_rule (a : D × D) : R (D) :=
  R.bind (m_read_name (a.1, a.2)) fun b1 =>
  R.opt2 (un2 b1) fun u2 u3 =>
  R.bind (m_read_atoms (a.1, u3)) fun b4 =>
  R.opt2 (un2 b4) fun u5 u6 =>
  R.bind (m_read_atom (a.1, u6)) fun b7 =>
  R.opt2 (un2 b7) fun u8 u9 =>
  .ok (.tuple [(.tuple [u2, u5, u8]), u9])
theorem cov_read_rule : ∀ (a : D × D) (b : D) (j : Nat) (o : Ob), (ea_read_rule a)[j]? = some (.w o) → ∃ o', (j, o') ∈ (erD b).2 := by
  intro a b j o h
  rcases j with _ | _ | j
  · cases h
  · cases h
  · cases h
theorem h_read_rule {k : Nat} (hD : DefAt K mg "read_rule" s_read_rule P_read_rule) (B : Bl K w mg) (h_read_name : Has P w K mg base k "read_name" P_read_name ea_read_name erD m_read_name) (h_read_atoms : Has P w K mg base k "read_atoms" P_read_atoms ea_read_atoms erD m_read_atoms) (h_read_atom : Has P w K mg base k "read_atom" P_read_atom ea_read_atom erD m_read_atom) : Has P w K mg base (k + 1) "read_rule" P_read_rule ea_read_rule erD m_read_rule := by
  refine Has.mk' (N := N_read_rule) hD ⟨rfl, rfl, rfl, by decide +kernel, rfl, by decide +kernel, by decide +kernel⟩ (fun _ => rfl) (cov_read_rule) fun f cd A outer s H E W F a hr hg => ?main
  case main =>
    have nd : N_read_rule.Nodup := by decide +kernel
    refine psk_cons ?_
    refine ps1_asg [2, 1] ?_
    refine pek_has h_read_name hr hg body_passes ?_
    refine pak_cons ?_
    refine pek_va 0 ?_
    refine pak_cons ?_
    refine pek_va 1 ?_
    refine pak_nil ?_
    refine ⟨(a.1, a.2), _, rfl, (show List.Nodup ([] : List Nat) by decide), rfl, fun b1 => ?_⟩
    refine ⟨_, rfl, ?_⟩
    refine pgk_t2 ⟨_, rfl, fun u2 u3 => ?_⟩ rfl
    refine pgsk_cons ?_
    refine pgk_name 2 ?_ nd
    refine pgsk_cons ?_
    refine pgk_name 1 ?_ nd
    refine pgsk_nil ?_
    refine psk_cons ?_
    refine ps1_asg [3, 1] ?_
    refine pek_has h_read_atoms hr hg body_passes ?_
    refine pak_cons ?_
    refine pek_va 0 ?_
    refine pak_cons ?_
    refine pek_va 1 ?_
    refine pak_nil ?_
    refine ⟨(a.1, u3), _, rfl, (show List.Nodup ([] : List Nat) by decide), rfl, fun b4 => ?_⟩
    refine ⟨_, rfl, ?_⟩
    refine pgk_t2 ⟨_, rfl, fun u5 u6 => ?_⟩ rfl
    refine pgsk_cons ?_
    refine pgk_name 3 ?_ nd
    refine pgsk_cons ?_
    refine pgk_name 1 ?_ nd
    refine pgsk_nil ?_
    refine psk_cons ?_
    refine ps1_asg [4, 1] ?_
    refine pek_has h_read_atom hr hg body_passes ?_
    refine pak_cons ?_
    refine pek_va 0 ?_
    refine pak_cons ?_
    refine pek_va 1 ?_
    refine pak_nil ?_
    refine ⟨(a.1, u6), _, rfl, (show List.Nodup ([] : List Nat) by decide), rfl, fun b7 => ?_⟩
    refine ⟨_, rfl, ?_⟩
    refine pgk_t2 ⟨_, rfl, fun u8 u9 => ?_⟩ rfl
    refine pgsk_cons ?_
    refine pgk_name 4 ?_ nd
    refine pgsk_cons ?_
    refine pgk_name 1 ?_ nd
    refine pgsk_nil ?_
    refine psk_cons (ps1_ret ?_)
    refine pek_tup ?_
    refine pak_cons ?_
    refine pek_tup ?_
    refine pak_cons ?_
    refine pek_va 2 ?_
    refine pak_cons ?_
    refine pek_va 3 ?_
    refine pak_cons ?_
    refine pek_va 4 ?_
    refine pak_nil ?_
    refine ⟨_, rfl, Nat.le_of_ble_eq_true rfl, ?_⟩
    refine pak_cons ?_
    refine pek_va 1 ?_
    refine pak_nil ?_
    refine ⟨_, rfl, Nat.le_of_ble_eq_true rfl, ?_⟩
    refine ⟨_, rfl, ?_⟩
    exact rt_d rfl
def b1_read_claim (a : D × D) (y14 : D) (c13 : D × List D) : R (Ct (D × List D)) :=
  R.bind (m_read_atoms (a.1, c13.1)) fun b15 =>
  R.opt2 (un2 b15) fun u16 u17 =>
  R.opt (apD c13.2 u16) fun z18 =>
  .ok (.nx (u17, z18))
def m_read_claim (a : D × D) : R (D) :=
  R.bind (m_read_name (a.1, a.2)) fun b1 =>
  R.opt2 (un2 b1) fun u2 u3 =>
  R.bind (m_number_at (a.1, u3, (.int 0), (.int 255))) fun b4 =>
  R.opt (addD u3 (.int 1)) fun z5 =>
  R.bind (m_read_atoms (a.1, z5)) fun b6 =>
  R.opt2 (un2 b6) fun u7 u8 =>
  R.bind (m_number_at (a.1, u8, (.int 0), (.int 255))) fun b9 =>
  R.opt (addD u8 (.int 1)) fun z10 =>
  R.opt2 (rg1 [b9]) fun i11 j12 =>
  R.bind (forL (b1_read_claim a) (rngD i11 j12) (z10, [])) (nxK fun (c19 : D × List D) =>
  R.bind (m_read_numbers (a.1, c19.1)) fun b20 =>
  R.opt2 (un2 b20) fun u21 u22 =>
  R.opt (tupleD [(.list c19.2)]) fun z23 =>
  .ok (.tuple [(.tuple [u2, (.tuple [b4, u7, z23]), u21]), u22]))
theorem cov_read_claim : ∀ (a : D × D) (b : D) (j : Nat) (o : Ob), (ea_read_claim a)[j]? = some (.w o) → ∃ o', (j, o') ∈ (erD b).2 := by
  intro a b j o h
  rcases j with _ | _ | j
  · cases h
  · cases h
  · cases h
theorem h_read_claim {k : Nat} (hD : DefAt K mg "read_claim" s_read_claim P_read_claim) (B : Bl K w mg) (h_read_name : Has P w K mg base k "read_name" P_read_name ea_read_name erD m_read_name) (h_number_at : Has P w K mg base k "number_at" P_number_at ea_number_at erD m_number_at) (h_read_atoms : Has P w K mg base k "read_atoms" P_read_atoms ea_read_atoms erD m_read_atoms) (h_read_numbers : Has P w K mg base k "read_numbers" P_read_numbers ea_read_numbers erD m_read_numbers) : Has P w K mg base (k + 1) "read_claim" P_read_claim ea_read_claim erD m_read_claim := by
  refine Has.mk' (N := N_read_claim) hD ⟨rfl, rfl, rfl, by decide +kernel, rfl, by decide +kernel, by decide +kernel⟩ (fun _ => rfl) (cov_read_claim) fun f cd A outer s H E W F a hr hg => ?main
  case main =>
    have nd : N_read_claim.Nodup := by decide +kernel
    refine psk_cons ?_
    refine ps1_asg [2, 1] ?_
    refine pek_has h_read_name hr hg body_passes ?_
    refine pak_cons ?_
    refine pek_va 0 ?_
    refine pak_cons ?_
    refine pek_va 1 ?_
    refine pak_nil ?_
    refine ⟨(a.1, a.2), _, rfl, (show List.Nodup ([] : List Nat) by decide), rfl, fun b1 => ?_⟩
    refine ⟨_, rfl, ?_⟩
    refine pgk_t2 ⟨_, rfl, fun u2 u3 => ?_⟩ rfl
    refine pgsk_cons ?_
    refine pgk_name 2 ?_ nd
    refine pgsk_cons ?_
    refine pgk_name 1 ?_ nd
    refine pgsk_nil ?_
    refine psk_cons ?_
    refine ps1_set 3 ?_ nd
    refine pek_has h_number_at hr hg body_passes ?_
    refine pak_cons ?_
    refine pek_va 0 ?_
    refine pak_cons ?_
    refine pek_va 1 ?_
    refine pak_cons ?_
    refine pek_int ?_
    refine pak_cons ?_
    refine pek_cst B.c_MOST ?_
    refine pak_nil ?_
    refine ⟨(a.1, u3, (.int 0), (.int 255)), _, rfl, (show List.Nodup ([] : List Nat) by decide), rfl, fun b4 => ?_⟩
    refine ⟨_, rfl, ?_⟩
    refine psk_cons ?_
    refine ps1_asg [4, 1] ?_
    refine pek_has h_read_atoms hr hg body_passes ?_
    refine pak_cons ?_
    refine pek_va 0 ?_
    refine pak_cons ?_
    refine pek_bin bin_add ?_
    refine pek_va 1 ?_
    refine pek_int ?_
    refine ⟨_, _, _, rfl, rfl, rfl, fun z5 => ?_⟩
    refine pak_nil ?_
    refine ⟨(a.1, z5), _, rfl, (show List.Nodup ([] : List Nat) by decide), rfl, fun b6 => ?_⟩
    refine ⟨_, rfl, ?_⟩
    refine pgk_t2 ⟨_, rfl, fun u7 u8 => ?_⟩ rfl
    refine pgsk_cons ?_
    refine pgk_name 4 ?_ nd
    refine pgsk_cons ?_
    refine pgk_name 1 ?_ nd
    refine pgsk_nil ?_
    refine psk_cons ?_
    refine ps1_set 5 ?_ nd
    refine pek_has h_number_at hr hg body_passes ?_
    refine pak_cons ?_
    refine pek_va 0 ?_
    refine pak_cons ?_
    refine pek_va 1 ?_
    refine pak_cons ?_
    refine pek_int ?_
    refine pak_cons ?_
    refine pek_cst B.c_MOST ?_
    refine pak_nil ?_
    refine ⟨(a.1, u8, (.int 0), (.int 255)), _, rfl, (show List.Nodup ([] : List Nat) by decide), rfl, fun b9 => ?_⟩
    refine ⟨_, rfl, ?_⟩
    refine psk_cons ?_
    refine ps1_set 1 ?_ nd
    refine pek_bin bin_add ?_
    refine pek_va 1 ?_
    refine pek_int ?_
    refine ⟨_, _, _, rfl, rfl, rfl, fun z10 => ?_⟩
    refine ⟨_, rfl, ?_⟩
    refine psk_cons ?_
    refine ps1_setO 6 ?_ nd
    refine pek_lst ?_
    refine pak_nil ?_
    refine ⟨_, rfl, Nat.le_of_ble_eq_true rfl, ?_⟩
    refine ⟨_, rfl, ?_⟩
    refine psk_cons ?_
    refine ps1_forK [7] (fun (c13 : D × List D) => [.va a.1, .va c13.1, .va u2, .va b4, .va u7, .va b9, .ow none (.ls c13.2), .no, .no, .no]) (b1_read_claim a) ?_ ?_ body_own rfl
    rotate_left
    · intro y14 c13
      refine pgk_name 7 ?_ nd
      refine psk_cons ?_
      refine ps1_asg [8, 1] ?_
      refine pek_has h_read_atoms hr hg body_passes ?_
      refine pak_cons ?_
      refine pek_va 0 ?_
      refine pak_cons ?_
      refine pek_va 1 ?_
      refine pak_nil ?_
      refine ⟨(a.1, c13.1), _, rfl, (show List.Nodup ([] : List Nat) by decide), rfl, fun b15 => ?_⟩
      refine ⟨_, rfl, ?_⟩
      refine pgk_t2 ⟨_, rfl, fun u16 u17 => ?_⟩ rfl
      refine pgsk_cons ?_
      refine pgk_name 8 ?_ nd
      refine pgsk_cons ?_
      refine pgk_name 1 ?_ nd
      refine pgsk_nil ?_
      refine psk_cons ?_
      refine ps1_append 6 ⟨_, _, rfl, ?_⟩
      refine pek_va 8 ?_
      refine ⟨_, _, _, _, rfl, rfl, rfl, fun z18 => ?_⟩
      refine psk_nil ?_
      exact ⟨(u17, z18), (.keep (.keep (.keep (.keep (.keep (.keep (.keep (.drop (.drop (.keep .nil)))))))))), rfl⟩
    refine pik_r1 B.range ?_
    refine pak_cons ?_
    refine pek_va 5 ?_
    refine pak_nil ?_
    refine ⟨_, _, rfl, rfl, fun i11 j12 => ?_⟩
    refine ⟨(z10, []), _, (.keep (.keep (.keep (.keep (.keep (.keep (.keep (.keep (.keep (.keep .nil)))))))))), rfl, fun c19 => ?_⟩
    refine psk_cons ?_
    refine ps1_asg [9, 1] ?_
    refine pek_has h_read_numbers hr hg body_passes ?_
    refine pak_cons ?_
    refine pek_va 0 ?_
    refine pak_cons ?_
    refine pek_va 1 ?_
    refine pak_nil ?_
    refine ⟨(a.1, c19.1), _, rfl, (show List.Nodup ([] : List Nat) by decide), rfl, fun b20 => ?_⟩
    refine ⟨_, rfl, ?_⟩
    refine pgk_t2 ⟨_, rfl, fun u21 u22 => ?_⟩ rfl
    refine pgsk_cons ?_
    refine pgk_name 9 ?_ nd
    refine pgsk_cons ?_
    refine pgk_name 1 ?_ nd
    refine pgsk_nil ?_
    refine psk_cons (ps1_ret ?_)
    refine pek_tup ?_
    refine pak_cons ?_
    refine pek_tup ?_
    refine pak_cons ?_
    refine pek_va 2 ?_
    refine pak_cons ?_
    refine pek_tup ?_
    refine pak_cons ?_
    refine pek_va 3 ?_
    refine pak_cons ?_
    refine pek_va 4 ?_
    refine pak_cons ?_
    refine pek_ty blt_tuple B.tuple ?_
    refine pak_cons ?_
    refine pek_ow 6 ?_
    refine pak_nil ?_
    refine ⟨_, _, rfl, rfl, fun z23 => ?_⟩
    refine pak_nil ?_
    refine ⟨_, rfl, Nat.le_of_ble_eq_true rfl, ?_⟩
    refine pak_cons ?_
    refine pek_va 9 ?_
    refine pak_nil ?_
    refine ⟨_, rfl, Nat.le_of_ble_eq_true rfl, ?_⟩
    refine pak_cons ?_
    refine pek_va 1 ?_
    refine pak_nil ?_
    refine ⟨_, rfl, Nat.le_of_ble_eq_true rfl, ?_⟩
    refine ⟨_, rfl, ?_⟩
    exact rt_d rfl
def b1_read_block (a : D × D) (y9 : D) (c8 : D × List D) : R (Ct (D × List D)) :=
  R.bind (m_read_claim (a.1, c8.1)) fun b10 =>
  R.opt2 (un2 b10) fun u11 u12 =>
  R.opt (apD c8.2 u11) fun z13 =>
  .ok (.nx (u12, z13))
def m_read_block (a : D × D) : R (D) :=
  R.bind (m_number_at (a.1, a.2, (.int 0), (.int 1))) fun b1 =>
  R.opt (eqD b1 (.int 1)) fun z2 =>
  R.opt (addD a.2 (.int 1)) fun z3 =>
  R.bind (m_number_at (a.1, z3, (.int 1), (.int 255))) fun b4 =>
  R.opt (addD a.2 (.int 2)) fun z5 =>
  R.opt2 (rg1 [b4]) fun i6 j7 =>
  R.bind (forL (b1_read_block a) (rngD i6 j7) (z5, [])) (nxK fun (c14 : D × List D) =>
  R.opt (tupleD [(.list c14.2)]) fun z15 =>
  .ok (.tuple [(.tuple [(.bool z2), z15]), c14.1]))
theorem cov_read_block : ∀ (a : D × D) (b : D) (j : Nat) (o : Ob), (ea_read_block a)[j]? = some (.w o) → ∃ o', (j, o') ∈ (erD b).2 := by
  intro a b j o h
  rcases j with _ | _ | j
  · cases h
  · cases h
  · cases h
theorem h_read_block {k : Nat} (hk : 7 ≤ k) (hD : DefAt K mg "read_block" s_read_block P_read_block) (B : Bl K w mg) (h_number_at : Has P w K mg base k "number_at" P_number_at ea_number_at erD m_number_at) (h_read_claim : Has P w K mg base k "read_claim" P_read_claim ea_read_claim erD m_read_claim) : Has P w K mg base (k + 1) "read_block" P_read_block ea_read_block erD m_read_block := by
  refine Has.mk' (N := N_read_block) hD ⟨rfl, rfl, rfl, by decide +kernel, rfl, by decide +kernel, by decide +kernel⟩ (fun _ => rfl) (cov_read_block) fun f cd A outer s H E W F a hr hg => ?main
  case main =>
    have nd : N_read_block.Nodup := by decide +kernel
    have hu := room_eq hr hk
    refine psk_cons ?_
    refine ps1_set 2 ?_ nd
    refine pek_cmp (cmp_eq hu) ?_
    refine pek_has h_number_at hr hg body_passes ?_
    refine pak_cons ?_
    refine pek_va 0 ?_
    refine pak_cons ?_
    refine pek_va 1 ?_
    refine pak_cons ?_
    refine pek_int ?_
    refine pak_cons ?_
    refine pek_int ?_
    refine pak_nil ?_
    refine ⟨(a.1, a.2, (.int 0), (.int 1)), _, rfl, (show List.Nodup ([] : List Nat) by decide), rfl, fun b1 => ?_⟩
    refine pek_int ?_
    refine AfterC.all rfl rfl rfl fun z2 => ?_
    refine ⟨_, rfl, ?_⟩
    refine psk_cons ?_
    refine ps1_set 3 ?_ nd
    refine pek_has h_number_at hr hg body_passes ?_
    refine pak_cons ?_
    refine pek_va 0 ?_
    refine pak_cons ?_
    refine pek_bin bin_add ?_
    refine pek_va 1 ?_
    refine pek_int ?_
    refine ⟨_, _, _, rfl, rfl, rfl, fun z3 => ?_⟩
    refine pak_cons ?_
    refine pek_int ?_
    refine pak_cons ?_
    refine pek_cst B.c_MOST ?_
    refine pak_nil ?_
    refine ⟨(a.1, z3, (.int 1), (.int 255)), _, rfl, (show List.Nodup ([] : List Nat) by decide), rfl, fun b4 => ?_⟩
    refine ⟨_, rfl, ?_⟩
    refine psk_cons ?_
    refine ps1_set 1 ?_ nd
    refine pek_bin bin_add ?_
    refine pek_va 1 ?_
    refine pek_int ?_
    refine ⟨_, _, _, rfl, rfl, rfl, fun z5 => ?_⟩
    refine ⟨_, rfl, ?_⟩
    refine psk_cons ?_
    refine ps1_setO 4 ?_ nd
    refine pek_lst ?_
    refine pak_nil ?_
    refine ⟨_, rfl, Nat.le_of_ble_eq_true rfl, ?_⟩
    refine ⟨_, rfl, ?_⟩
    refine psk_cons ?_
    refine ps1_forK [5] (fun (c8 : D × List D) => [.va a.1, .va c8.1, .va (.bool z2), .va b4, .ow none (.ls c8.2), .no, .no]) (b1_read_block a) ?_ ?_ body_own rfl
    rotate_left
    · intro y9 c8
      refine pgk_name 5 ?_ nd
      refine psk_cons ?_
      refine ps1_asg [6, 1] ?_
      refine pek_has h_read_claim hr hg body_passes ?_
      refine pak_cons ?_
      refine pek_va 0 ?_
      refine pak_cons ?_
      refine pek_va 1 ?_
      refine pak_nil ?_
      refine ⟨(a.1, c8.1), _, rfl, (show List.Nodup ([] : List Nat) by decide), rfl, fun b10 => ?_⟩
      refine ⟨_, rfl, ?_⟩
      refine pgk_t2 ⟨_, rfl, fun u11 u12 => ?_⟩ rfl
      refine pgsk_cons ?_
      refine pgk_name 6 ?_ nd
      refine pgsk_cons ?_
      refine pgk_name 1 ?_ nd
      refine pgsk_nil ?_
      refine psk_cons ?_
      refine ps1_append 4 ⟨_, _, rfl, ?_⟩
      refine pek_va 6 ?_
      refine ⟨_, _, _, _, rfl, rfl, rfl, fun z13 => ?_⟩
      refine psk_nil ?_
      exact ⟨(u12, z13), (.keep (.keep (.keep (.keep (.keep (.drop (.drop .nil))))))), rfl⟩
    refine pik_r1 B.range ?_
    refine pak_cons ?_
    refine pek_va 3 ?_
    refine pak_nil ?_
    refine ⟨_, _, rfl, rfl, fun i6 j7 => ?_⟩
    refine ⟨(z5, []), _, (.keep (.keep (.keep (.keep (.keep (.keep (.keep .nil))))))), rfl, fun c14 => ?_⟩
    refine psk_cons (ps1_ret ?_)
    refine pek_tup ?_
    refine pak_cons ?_
    refine pek_tup ?_
    refine pak_cons ?_
    refine pek_va 2 ?_
    refine pak_cons ?_
    refine pek_ty blt_tuple B.tuple ?_
    refine pak_cons ?_
    refine pek_ow 4 ?_
    refine pak_nil ?_
    refine ⟨_, _, rfl, rfl, fun z15 => ?_⟩
    refine pak_nil ?_
    refine ⟨_, rfl, Nat.le_of_ble_eq_true rfl, ?_⟩
    refine pak_cons ?_
    refine pek_va 1 ?_
    refine pak_nil ?_
    refine ⟨_, rfl, Nat.le_of_ble_eq_true rfl, ?_⟩
    refine ⟨_, rfl, ?_⟩
    exact rt_d rfl
def m_read_step (a : D × D) : R (D) :=
  R.bind (m_number_at (a.1, a.2, (.int 1), (.int 4))) fun b1 =>
  R.opt (ixD cSTEP_WORDS b1) fun z2 =>
  R.ite (eqD z2 (.str "invert")) (
  R.opt (addD a.2 (.int 1)) fun z3 =>
  R.bind (m_number_at (a.1, z3, (.int 0), (.int 255))) fun b4 =>
  R.opt (addD a.2 (.int 2)) fun z5 =>
  .ok (.tuple [(.tuple [z2, b4]), z5])) (
  R.ite (eqD z2 (.str "done")) (
  R.opt (addD a.2 (.int 1)) fun z6 =>
  R.bind (m_number_at (a.1, z6, (.int 0), (.int 255))) fun b7 =>
  R.opt (addD a.2 (.int 2)) fun z8 =>
  R.bind (m_read_terms (a.1, z8)) fun b9 =>
  R.opt2 (un2 b9) fun u10 u11 =>
  .ok (.tuple [(.tuple [z2, b7, u10]), u11])) (
  R.opt (addD a.2 (.int 1)) fun z12 =>
  R.bind (m_read_name (a.1, z12)) fun b13 =>
  R.opt2 (un2 b13) fun u14 u15 =>
  R.bind (m_read_terms (a.1, u15)) fun b16 =>
  R.opt2 (un2 b16) fun u17 u18 =>
  R.bind (m_read_numbers (a.1, u18)) fun b19 =>
  R.opt2 (un2 b19) fun u20 u21 =>
  .ok (.tuple [(.tuple [z2, u14, u17, u20]), u21])))
theorem cov_read_step : ∀ (a : D × D) (b : D) (j : Nat) (o : Ob), (ea_read_step a)[j]? = some (.w o) → ∃ o', (j, o') ∈ (erD b).2 := by
  intro a b j o h
  rcases j with _ | _ | j
  · cases h
  · cases h
  · cases h
theorem h_read_step {k : Nat} (hk : 7 ≤ k) (hD : DefAt K mg "read_step" s_read_step P_read_step) (B : Bl K w mg) (h_number_at : Has P w K mg base k "number_at" P_number_at ea_number_at erD m_number_at) (h_read_terms : Has P w K mg base k "read_terms" P_read_terms ea_read_terms erD m_read_terms) (h_read_name : Has P w K mg base k "read_name" P_read_name ea_read_name erD m_read_name) (h_read_numbers : Has P w K mg base k "read_numbers" P_read_numbers ea_read_numbers erD m_read_numbers) : Has P w K mg base (k + 1) "read_step" P_read_step ea_read_step erD m_read_step := by
  refine Has.mk' (N := N_read_step) hD ⟨rfl, rfl, rfl, by decide +kernel, rfl, by decide +kernel, by decide +kernel⟩ (fun _ => rfl) (cov_read_step) fun f cd A outer s H E W F a hr hg => ?main
  case main =>
    have nd : N_read_step.Nodup := by decide +kernel
    have hu := room_eq hr hk
    refine psk_cons ?_
    refine ps1_set 2 ?_ nd
    refine pek_ix ?_
    refine pek_cst B.c_STEP_WORDS ?_
    refine pek_has h_number_at hr hg body_passes ?_
    refine pak_cons ?_
    refine pek_va 0 ?_
    refine pak_cons ?_
    refine pek_va 1 ?_
    refine pak_cons ?_
    refine pek_int ?_
    refine pak_cons ?_
    refine pek_int ?_
    refine pak_nil ?_
    refine ⟨(a.1, a.2, (.int 1), (.int 4)), _, rfl, (show List.Nodup ([] : List Nat) by decide), rfl, fun b1 => ?_⟩
    refine ⟨_, _, _, rfl, rfl, rfl, fun z2 => ?_⟩
    refine ⟨_, rfl, ?_⟩
    refine psk_cons ?_
    refine ps1_if ?_
    refine ptk_cmp (cmp_eq hu) ?_
    refine pek_va 2 ?_
    refine pek_str ?_
    refine AfterC.ite rfl rfl rfl ?_ ?_
    · refine psk_cons (ps1_ret ?_)
      refine pek_tup ?_
      refine pak_cons ?_
      refine pek_tup ?_
      refine pak_cons ?_
      refine pek_va 2 ?_
      refine pak_cons ?_
      refine pek_has h_number_at hr hg body_passes ?_
      refine pak_cons ?_
      refine pek_va 0 ?_
      refine pak_cons ?_
      refine pek_bin bin_add ?_
      refine pek_va 1 ?_
      refine pek_int ?_
      refine ⟨_, _, _, rfl, rfl, rfl, fun z3 => ?_⟩
      refine pak_cons ?_
      refine pek_int ?_
      refine pak_cons ?_
      refine pek_cst B.c_MOST ?_
      refine pak_nil ?_
      refine ⟨(a.1, z3, (.int 0), (.int 255)), _, rfl, (show List.Nodup ([] : List Nat) by decide), rfl, fun b4 => ?_⟩
      refine pak_nil ?_
      refine ⟨_, rfl, Nat.le_of_ble_eq_true rfl, ?_⟩
      refine pak_cons ?_
      refine pek_bin bin_add ?_
      refine pek_va 1 ?_
      refine pek_int ?_
      refine ⟨_, _, _, rfl, rfl, rfl, fun z5 => ?_⟩
      refine pak_nil ?_
      refine ⟨_, rfl, Nat.le_of_ble_eq_true rfl, ?_⟩
      refine ⟨_, rfl, ?_⟩
      exact rt_d rfl
    · refine psk_nil ?_
      refine psk_cons ?_
      refine ps1_if ?_
      refine ptk_cmp (cmp_eq hu) ?_
      refine pek_va 2 ?_
      refine pek_str ?_
      refine AfterC.ite rfl rfl rfl ?_ ?_
      · refine psk_cons ?_
        refine ps1_set 3 ?_ nd
        refine pek_has h_number_at hr hg body_passes ?_
        refine pak_cons ?_
        refine pek_va 0 ?_
        refine pak_cons ?_
        refine pek_bin bin_add ?_
        refine pek_va 1 ?_
        refine pek_int ?_
        refine ⟨_, _, _, rfl, rfl, rfl, fun z6 => ?_⟩
        refine pak_cons ?_
        refine pek_int ?_
        refine pak_cons ?_
        refine pek_cst B.c_MOST ?_
        refine pak_nil ?_
        refine ⟨(a.1, z6, (.int 0), (.int 255)), _, rfl, (show List.Nodup ([] : List Nat) by decide), rfl, fun b7 => ?_⟩
        refine ⟨_, rfl, ?_⟩
        refine psk_cons ?_
        refine ps1_asg [4, 1] ?_
        refine pek_has h_read_terms hr hg body_passes ?_
        refine pak_cons ?_
        refine pek_va 0 ?_
        refine pak_cons ?_
        refine pek_bin bin_add ?_
        refine pek_va 1 ?_
        refine pek_int ?_
        refine ⟨_, _, _, rfl, rfl, rfl, fun z8 => ?_⟩
        refine pak_nil ?_
        refine ⟨(a.1, z8), _, rfl, (show List.Nodup ([] : List Nat) by decide), rfl, fun b9 => ?_⟩
        refine ⟨_, rfl, ?_⟩
        refine pgk_t2 ⟨_, rfl, fun u10 u11 => ?_⟩ rfl
        refine pgsk_cons ?_
        refine pgk_name 4 ?_ nd
        refine pgsk_cons ?_
        refine pgk_name 1 ?_ nd
        refine pgsk_nil ?_
        refine psk_cons (ps1_ret ?_)
        refine pek_tup ?_
        refine pak_cons ?_
        refine pek_tup ?_
        refine pak_cons ?_
        refine pek_va 2 ?_
        refine pak_cons ?_
        refine pek_va 3 ?_
        refine pak_cons ?_
        refine pek_va 4 ?_
        refine pak_nil ?_
        refine ⟨_, rfl, Nat.le_of_ble_eq_true rfl, ?_⟩
        refine pak_cons ?_
        refine pek_va 1 ?_
        refine pak_nil ?_
        refine ⟨_, rfl, Nat.le_of_ble_eq_true rfl, ?_⟩
        refine ⟨_, rfl, ?_⟩
        exact rt_d rfl
      · refine psk_nil ?_
        refine psk_cons ?_
        refine ps1_asg [5, 1] ?_
        refine pek_has h_read_name hr hg body_passes ?_
        refine pak_cons ?_
        refine pek_va 0 ?_
        refine pak_cons ?_
        refine pek_bin bin_add ?_
        refine pek_va 1 ?_
        refine pek_int ?_
        refine ⟨_, _, _, rfl, rfl, rfl, fun z12 => ?_⟩
        refine pak_nil ?_
        refine ⟨(a.1, z12), _, rfl, (show List.Nodup ([] : List Nat) by decide), rfl, fun b13 => ?_⟩
        refine ⟨_, rfl, ?_⟩
        refine pgk_t2 ⟨_, rfl, fun u14 u15 => ?_⟩ rfl
        refine pgsk_cons ?_
        refine pgk_name 5 ?_ nd
        refine pgsk_cons ?_
        refine pgk_name 1 ?_ nd
        refine pgsk_nil ?_
        refine psk_cons ?_
        refine ps1_asg [4, 1] ?_
        refine pek_has h_read_terms hr hg body_passes ?_
        refine pak_cons ?_
        refine pek_va 0 ?_
        refine pak_cons ?_
        refine pek_va 1 ?_
        refine pak_nil ?_
        refine ⟨(a.1, u15), _, rfl, (show List.Nodup ([] : List Nat) by decide), rfl, fun b16 => ?_⟩
        refine ⟨_, rfl, ?_⟩
        refine pgk_t2 ⟨_, rfl, fun u17 u18 => ?_⟩ rfl
        refine pgsk_cons ?_
        refine pgk_name 4 ?_ nd
        refine pgsk_cons ?_
        refine pgk_name 1 ?_ nd
        refine pgsk_nil ?_
        refine psk_cons ?_
        refine ps1_asg [6, 1] ?_
        refine pek_has h_read_numbers hr hg body_passes ?_
        refine pak_cons ?_
        refine pek_va 0 ?_
        refine pak_cons ?_
        refine pek_va 1 ?_
        refine pak_nil ?_
        refine ⟨(a.1, u18), _, rfl, (show List.Nodup ([] : List Nat) by decide), rfl, fun b19 => ?_⟩
        refine ⟨_, rfl, ?_⟩
        refine pgk_t2 ⟨_, rfl, fun u20 u21 => ?_⟩ rfl
        refine pgsk_cons ?_
        refine pgk_name 6 ?_ nd
        refine pgsk_cons ?_
        refine pgk_name 1 ?_ nd
        refine pgsk_nil ?_
        refine psk_cons (ps1_ret ?_)
        refine pek_tup ?_
        refine pak_cons ?_
        refine pek_tup ?_
        refine pak_cons ?_
        refine pek_va 2 ?_
        refine pak_cons ?_
        refine pek_va 5 ?_
        refine pak_cons ?_
        refine pek_va 4 ?_
        refine pak_cons ?_
        refine pek_va 6 ?_
        refine pak_nil ?_
        refine ⟨_, rfl, Nat.le_of_ble_eq_true rfl, ?_⟩
        refine pak_cons ?_
        refine pek_va 1 ?_
        refine pak_nil ?_
        refine ⟨_, rfl, Nat.le_of_ble_eq_true rfl, ?_⟩
        refine ⟨_, rfl, ?_⟩
        exact rt_d rfl
def m_read_label (a : D × D) : R (D) :=
  R.bind (m_number_at (a.1, a.2, (.int 0), (.int 16))) fun b1 =>
  R.ite (eqD b1 (.int 0)) (
  R.opt (addD a.2 (.int 1)) fun z2 =>
  .ok (.tuple [(.str ""), z2])) (
  R.bind (m_read_name (a.1, a.2)) fun b3 =>
  .ok b3)
theorem cov_read_label : ∀ (a : D × D) (b : D) (j : Nat) (o : Ob), (ea_read_label a)[j]? = some (.w o) → ∃ o', (j, o') ∈ (erD b).2 := by
  intro a b j o h
  rcases j with _ | _ | j
  · cases h
  · cases h
  · cases h
theorem h_read_label {k : Nat} (hk : 7 ≤ k) (hD : DefAt K mg "read_label" s_read_label P_read_label) (B : Bl K w mg) (h_number_at : Has P w K mg base k "number_at" P_number_at ea_number_at erD m_number_at) (h_read_name : Has P w K mg base k "read_name" P_read_name ea_read_name erD m_read_name) : Has P w K mg base (k + 1) "read_label" P_read_label ea_read_label erD m_read_label := by
  refine Has.mk' (N := N_read_label) hD ⟨rfl, rfl, rfl, by decide +kernel, rfl, by decide +kernel, by decide +kernel⟩ (fun _ => rfl) (cov_read_label) fun f cd A outer s H E W F a hr hg => ?main
  case main =>
    have nd : N_read_label.Nodup := by decide +kernel
    have hu := room_eq hr hk
    refine psk_cons ?_
    refine ps1_if ?_
    refine ptk_cmp (cmp_eq hu) ?_
    refine pek_has h_number_at hr hg body_passes ?_
    refine pak_cons ?_
    refine pek_va 0 ?_
    refine pak_cons ?_
    refine pek_va 1 ?_
    refine pak_cons ?_
    refine pek_int ?_
    refine pak_cons ?_
    refine pek_cst B.c_MOST_SIGNS ?_
    refine pak_nil ?_
    refine ⟨(a.1, a.2, (.int 0), (.int 16)), _, rfl, (show List.Nodup ([] : List Nat) by decide), rfl, fun b1 => ?_⟩
    refine pek_int ?_
    refine AfterC.ite rfl rfl rfl ?_ ?_
    · refine psk_cons (ps1_ret ?_)
      refine pek_tup ?_
      refine pak_cons ?_
      refine pek_str ?_
      refine pak_cons ?_
      refine pek_bin bin_add ?_
      refine pek_va 1 ?_
      refine pek_int ?_
      refine ⟨_, _, _, rfl, rfl, rfl, fun z2 => ?_⟩
      refine pak_nil ?_
      refine ⟨_, rfl, Nat.le_of_ble_eq_true rfl, ?_⟩
      refine ⟨_, rfl, ?_⟩
      exact rt_d rfl
    · refine psk_nil ?_
      refine psk_cons (ps1_ret ?_)
      refine pek_has h_read_name hr hg body_passes ?_
      refine pak_cons ?_
      refine pek_va 0 ?_
      refine pak_cons ?_
      refine pek_va 1 ?_
      refine pak_nil ?_
      refine ⟨(a.1, a.2), _, rfl, (show List.Nodup ([] : List Nat) by decide), rfl, fun b3 => ?_⟩
      refine ⟨_, rfl, ?_⟩
      exact rt_d rfl
def b1_read_argument (q_read_argument : D × D × D → R (D)) (a : D × D × D) (y10 : D) (c9 : D × List D) : R (Ct (D × List D)) :=
  R.bind (m_read_label (a.1, c9.1)) fun b11 =>
  R.opt2 (un2 b11) fun u12 u13 =>
  R.opt (addD a.2.2 (.int 1)) fun z14 =>
  R.bind (q_read_argument (a.1, u13, z14)) fun b15 =>
  R.opt2 (un2 b15) fun u16 u17 =>
  R.opt (apD c9.2 (.tuple [u12, u16])) fun z18 =>
  .ok (.nx (u17, z18))
def g_read_argument (q_read_argument : D × D × D → R (D)) (a : D × D × D) : R (D) :=
  R.bind (m_read_step (a.1, a.2.1)) fun b1 =>
  R.opt2 (un2 b1) fun u2 u3 =>
  R.bind (R.ite (eqD a.2.2 (.int 60)) (
  .ok (.nx (.int 0))) (
  .ok (.nx (.int 255)))) (nxK fun (c4 : D) =>
  R.bind (m_number_at (a.1, u3, (.int 0), c4)) fun b5 =>
  R.opt (addD u3 (.int 1)) fun z6 =>
  R.opt2 (rg1 [b5]) fun i7 j8 =>
  R.bind (forL (b1_read_argument q_read_argument a) (rngD i7 j8) (z6, [])) (nxK fun (c19 : D × List D) =>
  R.opt (tupleD [(.list c19.2)]) fun z20 =>
  .ok (.tuple [(.tuple [u2, z20]), c19.1])))
theorem cov_read_argument : ∀ (a : D × D × D) (b : D) (j : Nat) (o : Ob), (ea_read_argument a)[j]? = some (.w o) → ∃ o', (j, o') ∈ (erD b).2 := by
  intro a b j o h
  rcases j with _ | _ | _ | j
  · cases h
  · cases h
  · cases h
  · cases h
theorem hg_read_argument {k : Nat} (hk : 7 ≤ k) (hD : DefAt K mg "read_argument" s_read_argument P_read_argument) (B : Bl K w mg) {q_read_argument : D × D × D → R (D)} (h_read_step : Has P w K mg base k "read_step" P_read_step ea_read_step erD m_read_step) (h_number_at : Has P w K mg base k "number_at" P_number_at ea_number_at erD m_number_at) (h_read_label : Has P w K mg base k "read_label" P_read_label ea_read_label erD m_read_label) (h_read_argument : Has P w K mg base k "read_argument" P_read_argument ea_read_argument erD q_read_argument) : Has P w K mg base (k + 1) "read_argument" P_read_argument ea_read_argument erD (g_read_argument q_read_argument) := by
  refine Has.mk' (N := N_read_argument) hD ⟨rfl, rfl, rfl, by decide +kernel, rfl, by decide +kernel, by decide +kernel⟩ (fun _ => rfl) (cov_read_argument) fun f cd A outer s H E W F a hr hg => ?main
  case main =>
    have nd : N_read_argument.Nodup := by decide +kernel
    have hu := room_eq hr hk
    refine psk_cons ?_
    refine ps1_asg [3, 1] ?_
    refine pek_has h_read_step hr hg body_passes ?_
    refine pak_cons ?_
    refine pek_va 0 ?_
    refine pak_cons ?_
    refine pek_va 1 ?_
    refine pak_nil ?_
    refine ⟨(a.1, a.2.1), _, rfl, (show List.Nodup ([] : List Nat) by decide), rfl, fun b1 => ?_⟩
    refine ⟨_, rfl, ?_⟩
    refine pgk_t2 ⟨_, rfl, fun u2 u3 => ?_⟩ rfl
    refine pgsk_cons ?_
    refine pgk_name 3 ?_ nd
    refine pgsk_cons ?_
    refine pgk_name 1 ?_ nd
    refine pgsk_nil ?_
    refine psk_cons ?_
    refine ps1_set 4 ?_ nd
    refine pek_cst B.c_MOST ?_
    refine ⟨_, rfl, ?_⟩
    refine psk_cons ?_
    refine ps1_joinK (fun (c4 : D) => [.va a.1, .va u3, .va a.2.2, .va u2, .va c4, .no, .no, .no, .no, .no]) rfl ?_ (fun c4 => ?_)
    · refine ps1_if ?_
      refine ptk_cmp (cmp_eq hu) ?_
      refine pek_va 2 ?_
      refine pek_cst B.c_MOST_ARGUMENT_DEPTH ?_
      refine AfterC.ite rfl rfl rfl ?_ ?_
      · refine psk_cons ?_
        refine ps1_set 4 ?_ nd
        refine pek_int ?_
        refine ⟨_, rfl, ?_⟩
        refine psk_nil ?_
        exact ⟨(.int 0), (.keep (.keep (.keep (.keep (.keep (.keep (.keep (.keep (.keep (.keep .nil)))))))))), rfl⟩
      · refine psk_nil ?_
        exact ⟨(.int 255), (.keep (.keep (.keep (.keep (.keep (.keep (.keep (.keep (.keep (.keep .nil)))))))))), rfl⟩
    refine psk_cons ?_
    refine ps1_set 5 ?_ nd
    refine pek_has h_number_at hr hg body_passes ?_
    refine pak_cons ?_
    refine pek_va 0 ?_
    refine pak_cons ?_
    refine pek_va 1 ?_
    refine pak_cons ?_
    refine pek_int ?_
    refine pak_cons ?_
    refine pek_va 4 ?_
    refine pak_nil ?_
    refine ⟨(a.1, u3, (.int 0), c4), _, rfl, (show List.Nodup ([] : List Nat) by decide), rfl, fun b5 => ?_⟩
    refine ⟨_, rfl, ?_⟩
    refine psk_cons ?_
    refine ps1_set 1 ?_ nd
    refine pek_bin bin_add ?_
    refine pek_va 1 ?_
    refine pek_int ?_
    refine ⟨_, _, _, rfl, rfl, rfl, fun z6 => ?_⟩
    refine ⟨_, rfl, ?_⟩
    refine psk_cons ?_
    refine ps1_setO 6 ?_ nd
    refine pek_lst ?_
    refine pak_nil ?_
    refine ⟨_, rfl, Nat.le_of_ble_eq_true rfl, ?_⟩
    refine ⟨_, rfl, ?_⟩
    refine psk_cons ?_
    refine ps1_forK [7] (fun (c9 : D × List D) => [.va a.1, .va c9.1, .va a.2.2, .va u2, .va c4, .va b5, .ow none (.ls c9.2), .no, .no, .no]) (b1_read_argument q_read_argument a) ?_ ?_ body_own rfl
    rotate_left
    · intro y10 c9
      refine pgk_name 7 ?_ nd
      refine psk_cons ?_
      refine ps1_asg [8, 1] ?_
      refine pek_has h_read_label hr hg body_passes ?_
      refine pak_cons ?_
      refine pek_va 0 ?_
      refine pak_cons ?_
      refine pek_va 1 ?_
      refine pak_nil ?_
      refine ⟨(a.1, c9.1), _, rfl, (show List.Nodup ([] : List Nat) by decide), rfl, fun b11 => ?_⟩
      refine ⟨_, rfl, ?_⟩
      refine pgk_t2 ⟨_, rfl, fun u12 u13 => ?_⟩ rfl
      refine pgsk_cons ?_
      refine pgk_name 8 ?_ nd
      refine pgsk_cons ?_
      refine pgk_name 1 ?_ nd
      refine pgsk_nil ?_
      refine psk_cons ?_
      refine ps1_asg [9, 1] ?_
      refine pek_has h_read_argument hr hg body_passes ?_
      refine pak_cons ?_
      refine pek_va 0 ?_
      refine pak_cons ?_
      refine pek_va 1 ?_
      refine pak_cons ?_
      refine pek_bin bin_add ?_
      refine pek_va 2 ?_
      refine pek_int ?_
      refine ⟨_, _, _, rfl, rfl, rfl, fun z14 => ?_⟩
      refine pak_nil ?_
      refine ⟨(a.1, u13, z14), _, rfl, (show List.Nodup ([] : List Nat) by decide), rfl, fun b15 => ?_⟩
      refine ⟨_, rfl, ?_⟩
      refine pgk_t2 ⟨_, rfl, fun u16 u17 => ?_⟩ rfl
      refine pgsk_cons ?_
      refine pgk_name 9 ?_ nd
      refine pgsk_cons ?_
      refine pgk_name 1 ?_ nd
      refine pgsk_nil ?_
      refine psk_cons ?_
      refine ps1_append 6 ⟨_, _, rfl, ?_⟩
      refine pek_tup ?_
      refine pak_cons ?_
      refine pek_va 8 ?_
      refine pak_cons ?_
      refine pek_va 9 ?_
      refine pak_nil ?_
      refine ⟨_, rfl, Nat.le_of_ble_eq_true rfl, ?_⟩
      refine ⟨_, _, _, _, rfl, rfl, rfl, fun z18 => ?_⟩
      refine psk_nil ?_
      exact ⟨(u17, z18), (.keep (.keep (.keep (.keep (.keep (.keep (.keep (.drop (.drop (.drop .nil)))))))))), rfl⟩
    refine pik_r1 B.range ?_
    refine pak_cons ?_
    refine pek_va 5 ?_
    refine pak_nil ?_
    refine ⟨_, _, rfl, rfl, fun i7 j8 => ?_⟩
    refine ⟨(z6, []), _, (.keep (.keep (.keep (.keep (.keep (.keep (.keep (.keep (.keep (.keep .nil)))))))))), rfl, fun c19 => ?_⟩
    refine psk_cons (ps1_ret ?_)
    refine pek_tup ?_
    refine pak_cons ?_
    refine pek_tup ?_
    refine pak_cons ?_
    refine pek_va 3 ?_
    refine pak_cons ?_
    refine pek_ty blt_tuple B.tuple ?_
    refine pak_cons ?_
    refine pek_ow 6 ?_
    refine pak_nil ?_
    refine ⟨_, _, rfl, rfl, fun z20 => ?_⟩
    refine pak_nil ?_
    refine ⟨_, rfl, Nat.le_of_ble_eq_true rfl, ?_⟩
    refine pak_cons ?_
    refine pek_va 1 ?_
    refine pak_nil ?_
    refine ⟨_, rfl, Nat.le_of_ble_eq_true rfl, ?_⟩
    refine ⟨_, rfl, ?_⟩
    exact rt_d rfl
def m_read_argument : Nat → D × D × D → R (D)
  | 0 => fun _ => .stuck
  | n + 1 => g_read_argument (m_read_argument n)
def m_read_entry (a : D × D) : R (D) :=
  R.bind (m_read_name (a.1, a.2)) fun b1 =>
  R.opt2 (un2 b1) fun u2 u3 =>
  R.bind (R.bind (m_number_at (a.1, u3, (.int 0), (.int 1))) fun b5 =>
  R.ite (eqD b5 (.int 1)) (
  R.opt (addD u3 (.int 1)) fun z6 =>
  R.bind (m_read_name (a.1, z6)) fun b7 =>
  R.opt2 (un2 b7) fun u8 u9 =>
  .ok (.nx (u9, u8))) (
  R.opt (addD u3 (.int 1)) fun z10 =>
  .ok (.nx (z10, .none)))) (nxK fun (c4 : D × D) =>
  R.bind ((m_read_argument 64) (a.1, c4.1, (.int 1))) fun b11 =>
  R.opt2 (un2 b11) fun u12 u13 =>
  .ok (.tuple [(.tuple [u2, c4.2, u12]), u13]))
theorem cov_read_entry : ∀ (a : D × D) (b : D) (j : Nat) (o : Ob), (ea_read_entry a)[j]? = some (.w o) → ∃ o', (j, o') ∈ (erD b).2 := by
  intro a b j o h
  rcases j with _ | _ | j
  · cases h
  · cases h
  · cases h
theorem h_read_entry {k : Nat} (hk : 7 ≤ k) (hD : DefAt K mg "read_entry" s_read_entry P_read_entry) (B : Bl K w mg) (h_read_name : Has P w K mg base k "read_name" P_read_name ea_read_name erD m_read_name) (h_number_at : Has P w K mg base k "number_at" P_number_at ea_number_at erD m_number_at) (h_read_argument : Has P w K mg base k "read_argument" P_read_argument ea_read_argument erD (m_read_argument 64)) : Has P w K mg base (k + 1) "read_entry" P_read_entry ea_read_entry erD m_read_entry := by
  refine Has.mk' (N := N_read_entry) hD ⟨rfl, rfl, rfl, by decide +kernel, rfl, by decide +kernel, by decide +kernel⟩ (fun _ => rfl) (cov_read_entry) fun f cd A outer s H E W F a hr hg => ?main
  case main =>
    have nd : N_read_entry.Nodup := by decide +kernel
    have hu := room_eq hr hk
    refine psk_cons ?_
    refine ps1_asg [2, 1] ?_
    refine pek_has h_read_name hr hg body_passes ?_
    refine pak_cons ?_
    refine pek_va 0 ?_
    refine pak_cons ?_
    refine pek_va 1 ?_
    refine pak_nil ?_
    refine ⟨(a.1, a.2), _, rfl, (show List.Nodup ([] : List Nat) by decide), rfl, fun b1 => ?_⟩
    refine ⟨_, rfl, ?_⟩
    refine pgk_t2 ⟨_, rfl, fun u2 u3 => ?_⟩ rfl
    refine pgsk_cons ?_
    refine pgk_name 2 ?_ nd
    refine pgsk_cons ?_
    refine pgk_name 1 ?_ nd
    refine pgsk_nil ?_
    refine psk_cons ?_
    refine ps1_set 3 ?_ nd
    refine pek_non ?_
    refine ⟨_, rfl, ?_⟩
    refine psk_cons ?_
    refine ps1_joinK (fun (c4 : D × D) => [.va a.1, .va c4.1, .va u2, .va c4.2, .no]) rfl ?_ (fun c4 => ?_)
    · refine ps1_if ?_
      refine ptk_cmp (cmp_eq hu) ?_
      refine pek_has h_number_at hr hg body_passes ?_
      refine pak_cons ?_
      refine pek_va 0 ?_
      refine pak_cons ?_
      refine pek_va 1 ?_
      refine pak_cons ?_
      refine pek_int ?_
      refine pak_cons ?_
      refine pek_int ?_
      refine pak_nil ?_
      refine ⟨(a.1, u3, (.int 0), (.int 1)), _, rfl, (show List.Nodup ([] : List Nat) by decide), rfl, fun b5 => ?_⟩
      refine pek_int ?_
      refine AfterC.ite rfl rfl rfl ?_ ?_
      · refine psk_cons ?_
        refine ps1_asg [3, 1] ?_
        refine pek_has h_read_name hr hg body_passes ?_
        refine pak_cons ?_
        refine pek_va 0 ?_
        refine pak_cons ?_
        refine pek_bin bin_add ?_
        refine pek_va 1 ?_
        refine pek_int ?_
        refine ⟨_, _, _, rfl, rfl, rfl, fun z6 => ?_⟩
        refine pak_nil ?_
        refine ⟨(a.1, z6), _, rfl, (show List.Nodup ([] : List Nat) by decide), rfl, fun b7 => ?_⟩
        refine ⟨_, rfl, ?_⟩
        refine pgk_t2 ⟨_, rfl, fun u8 u9 => ?_⟩ rfl
        refine pgsk_cons ?_
        refine pgk_name 3 ?_ nd
        refine pgsk_cons ?_
        refine pgk_name 1 ?_ nd
        refine pgsk_nil ?_
        refine psk_nil ?_
        exact ⟨(u9, u8), (.keep (.keep (.keep (.keep (.keep .nil))))), rfl⟩
      · refine psk_cons ?_
        refine ps1_set 1 ?_ nd
        refine pek_bin bin_add ?_
        refine pek_va 1 ?_
        refine pek_int ?_
        refine ⟨_, _, _, rfl, rfl, rfl, fun z10 => ?_⟩
        refine ⟨_, rfl, ?_⟩
        refine psk_nil ?_
        exact ⟨(z10, .none), (.keep (.keep (.keep (.keep (.keep .nil))))), rfl⟩
    refine psk_cons ?_
    refine ps1_asg [4, 1] ?_
    refine pek_has h_read_argument hr hg body_passes ?_
    refine pak_cons ?_
    refine pek_va 0 ?_
    refine pak_cons ?_
    refine pek_va 1 ?_
    refine pak_cons ?_
    refine pek_int ?_
    refine pak_nil ?_
    refine ⟨(a.1, c4.1, (.int 1)), _, rfl, (show List.Nodup ([] : List Nat) by decide), rfl, fun b11 => ?_⟩
    refine ⟨_, rfl, ?_⟩
    refine pgk_t2 ⟨_, rfl, fun u12 u13 => ?_⟩ rfl
    refine pgsk_cons ?_
    refine pgk_name 4 ?_ nd
    refine pgsk_cons ?_
    refine pgk_name 1 ?_ nd
    refine pgsk_nil ?_
    refine psk_cons (ps1_ret ?_)
    refine pek_tup ?_
    refine pak_cons ?_
    refine pek_tup ?_
    refine pak_cons ?_
    refine pek_va 2 ?_
    refine pak_cons ?_
    refine pek_va 3 ?_
    refine pak_cons ?_
    refine pek_va 4 ?_
    refine pak_nil ?_
    refine ⟨_, rfl, Nat.le_of_ble_eq_true rfl, ?_⟩
    refine pak_cons ?_
    refine pek_va 1 ?_
    refine pak_nil ?_
    refine ⟨_, rfl, Nat.le_of_ble_eq_true rfl, ?_⟩
    refine ⟨_, rfl, ?_⟩
    exact rt_d rfl
def b1_read_rows (q_read : D × D → R D) (a : D × D) (y6 : D) (c5 : D × List D) : R (Ct (D × List D)) :=
  R.bind (q_read (a.1, c5.1)) fun b7 =>
  R.opt2 (un2 b7) fun u8 u9 =>
  R.opt (apD c5.2 u8) fun z10 =>
  .ok (.nx (u9, z10))
def m_read_rows (q_read : D × D → R D) (a : D × D) : R (D) :=
  R.bind (m_number_at (a.1, a.2, (.int 0), (.int 255))) fun b1 =>
  R.opt (addD a.2 (.int 1)) fun z2 =>
  R.opt2 (rg1 [b1]) fun i3 j4 =>
  R.bind (forL (b1_read_rows q_read a) (rngD i3 j4) (z2, [])) (nxK fun (c11 : D × List D) =>
  R.opt (tupleD [(.list c11.2)]) fun z12 =>
  .ok (.tuple [z12, c11.1]))
theorem cov_read_rows (y_read : Str) : ∀ (a : D × D) (b : D) (j : Nat) (o : Ob), ((ea_read_rows y_read) a)[j]? = some (.w o) → ∃ o', (j, o') ∈ (erD b).2 := by
  intro a b j o h
  rcases j with _ | _ | _ | j
  · cases h
  · cases h
  · cases h
  · cases h
theorem h_read_rows {k : Nat} (hD : DefAt K mg "read_rows" s_read_rows P_read_rows) (B : Bl K w mg) {y_read : Str} {ps_read : List Str} {ea_read : D × D → List Ag} {q_read : D × D → R D} (hea_read : ∀ a, ea_read a = [.d a.1, .d a.2]) (h_read : Has P w K mg base k y_read ps_read ea_read erD q_read) (h_number_at : Has P w K mg base k "number_at" P_number_at ea_number_at erD m_number_at) : Has P w K mg base (k + 1) "read_rows" P_read_rows (ea_read_rows y_read) erD (m_read_rows q_read) := by
  refine Has.mk' (N := N_read_rows) hD ⟨rfl, rfl, rfl, by decide +kernel, rfl, by decide +kernel, by decide +kernel⟩ (fun _ => rfl) (cov_read_rows y_read) fun f cd A outer s H E W F a hr hg => ?main
  case main =>
    have nd : N_read_rows.Nodup := by decide +kernel
    refine psk_cons ?_
    refine ps1_set 3 ?_ nd
    refine pek_has h_number_at hr hg body_passes ?_
    refine pak_cons ?_
    refine pek_va 0 ?_
    refine pak_cons ?_
    refine pek_va 1 ?_
    refine pak_cons ?_
    refine pek_int ?_
    refine pak_cons ?_
    refine pek_cst B.c_MOST ?_
    refine pak_nil ?_
    refine ⟨(a.1, a.2, (.int 0), (.int 255)), _, rfl, (show List.Nodup ([] : List Nat) by decide), rfl, fun b1 => ?_⟩
    refine ⟨_, rfl, ?_⟩
    refine psk_cons ?_
    refine ps1_set 1 ?_ nd
    refine pek_bin bin_add ?_
    refine pek_va 1 ?_
    refine pek_int ?_
    refine ⟨_, _, _, rfl, rfl, rfl, fun z2 => ?_⟩
    refine ⟨_, rfl, ?_⟩
    refine psk_cons ?_
    refine ps1_setO 4 ?_ nd
    refine pek_lst ?_
    refine pak_nil ?_
    refine ⟨_, rfl, Nat.le_of_ble_eq_true rfl, ?_⟩
    refine ⟨_, rfl, ?_⟩
    refine psk_cons ?_
    refine ps1_forK [5] (fun (c5 : D × List D) => [.va a.1, .va c5.1, .fn y_read, .va b1, .ow none (.ls c5.2), .no, .no]) (b1_read_rows q_read a) ?_ ?_ body_own rfl
    rotate_left
    · intro y6 c5
      refine pgk_name 5 ?_ nd
      refine psk_cons ?_
      refine ps1_asg [6, 1] ?_
      refine pek_hasL 2 h_read hr hg body_passes ?_
      refine pak_cons ?_
      refine pek_va 0 ?_
      refine pak_cons ?_
      refine pek_va 1 ?_
      refine pak_nil ?_
      refine ⟨(a.1, c5.1), _, by rw [hea_read]; rfl, (show List.Nodup ([] : List Nat) by decide), rfl, fun b7 => ?_⟩
      refine ⟨_, rfl, ?_⟩
      refine pgk_t2 ⟨_, rfl, fun u8 u9 => ?_⟩ rfl
      refine pgsk_cons ?_
      refine pgk_name 6 ?_ nd
      refine pgsk_cons ?_
      refine pgk_name 1 ?_ nd
      refine pgsk_nil ?_
      refine psk_cons ?_
      refine ps1_append 4 ⟨_, _, rfl, ?_⟩
      refine pek_va 6 ?_
      refine ⟨_, _, _, _, rfl, rfl, rfl, fun z10 => ?_⟩
      refine psk_nil ?_
      exact ⟨(u9, z10), (.keep (.keep (.keep (.keep (.keep (.drop (.drop .nil))))))), rfl⟩
    refine pik_r1 B.range ?_
    refine pak_cons ?_
    refine pek_va 3 ?_
    refine pak_nil ?_
    refine ⟨_, _, rfl, rfl, fun i3 j4 => ?_⟩
    refine ⟨(z2, []), _, (.keep (.keep (.keep (.keep (.keep (.keep (.keep .nil))))))), rfl, fun c11 => ?_⟩
    refine psk_cons (ps1_ret ?_)
    refine pek_tup ?_
    refine pak_cons ?_
    refine pek_ty blt_tuple B.tuple ?_
    refine pak_cons ?_
    refine pek_ow 4 ?_
    refine pak_nil ?_
    refine ⟨_, _, rfl, rfl, fun z12 => ?_⟩
    refine pak_cons ?_
    refine pek_va 1 ?_
    refine pak_nil ?_
    refine ⟨_, rfl, Nat.le_of_ble_eq_true rfl, ?_⟩
    refine ⟨_, rfl, ?_⟩
    exact rt_d rfl
def b1_parts_of (a : D) (y5 : D) (c4 : Unit) : R (Ct (Unit)) :=
  R.opt (ixD cMAGIC y5) fun z6 =>
  R.opt (ixD cMAGIC y5) fun z7 =>
  R.bind (m_number_at (a, y5, z6, z7)) fun b8 =>
  .ok (.nx ())
def m_parts_of (a : D) : R (D) :=
  R.opt (lenD [cMAGIC]) fun z1 =>
  R.opt2 (rg1 [z1]) fun i2 j3 =>
  R.bind (forL (b1_parts_of a) (rngD i2 j3) ()) (nxK fun (c9 : Unit) =>
  R.opt (lenD [cMAGIC]) fun z10 =>
  R.bind (m_read_name (a, z10)) fun b11 =>
  R.opt2 (un2 b11) fun u12 u13 =>
  R.bind ((m_read_rows m_read_name) (a, u13)) fun b14 =>
  R.opt2 (un2 b14) fun u15 u16 =>
  R.bind ((m_read_rows m_read_rule) (a, u16)) fun b17 =>
  R.opt2 (un2 b17) fun u18 u19 =>
  R.bind ((m_read_rows m_read_block) (a, u19)) fun b20 =>
  R.opt2 (un2 b20) fun u21 u22 =>
  R.bind ((m_read_rows m_read_entry) (a, u22)) fun b23 =>
  R.opt2 (un2 b23) fun u24 u25 =>
  R.opt (lenD [a]) fun z26 =>
  R.ite (neD u25 z26) (
  .stuck) (
  .ok (.tuple [u12, u15, u18, u21, u24])))
theorem cov_parts_of : ∀ (a : D) (b : D) (j : Nat) (o : Ob), (ea_parts_of a)[j]? = some (.w o) → ∃ o', (j, o') ∈ (erD b).2 := by
  intro a b j o h
  rcases j with _ | j
  · cases h
  · cases h
theorem h_parts_of {k : Nat} (hk : 7 ≤ k) (hD : DefAt K mg "parts_of" s_parts_of P_parts_of) (B : Bl K w mg) (h_number_at : Has P w K mg base k "number_at" P_number_at ea_number_at erD m_number_at) (h_read_name : Has P w K mg base k "read_name" P_read_name ea_read_name erD m_read_name) (h_read_rows_read_name : Has P w K mg base k "read_rows" P_read_rows (ea_read_rows "read_name") erD (m_read_rows m_read_name)) (h_read_rows_read_rule : Has P w K mg base k "read_rows" P_read_rows (ea_read_rows "read_rule") erD (m_read_rows m_read_rule)) (h_read_rows_read_block : Has P w K mg base k "read_rows" P_read_rows (ea_read_rows "read_block") erD (m_read_rows m_read_block)) (h_read_rows_read_entry : Has P w K mg base k "read_rows" P_read_rows (ea_read_rows "read_entry") erD (m_read_rows m_read_entry)) (h_read_rule : Has P w K mg base k "read_rule" P_read_rule ea_read_rule erD m_read_rule) (h_read_block : Has P w K mg base k "read_block" P_read_block ea_read_block erD m_read_block) (h_read_entry : Has P w K mg base k "read_entry" P_read_entry ea_read_entry erD m_read_entry) : Has P w K mg base (k + 1) "parts_of" P_parts_of ea_parts_of erD m_parts_of := by
  refine Has.mk' (N := N_parts_of) hD ⟨rfl, rfl, rfl, by decide +kernel, rfl, by decide +kernel, by decide +kernel⟩ (fun _ => rfl) (cov_parts_of) fun f cd A outer s H E W F a hr hg => ?main
  case main =>
    have nd : N_parts_of.Nodup := by decide +kernel
    have hu := room_eq hr hk
    refine psk_cons ?_
    refine ps1_forK [1] (fun (c4 : Unit) => [.va a, .no, .no, .no, .no, .no, .no, .no]) (b1_parts_of a) ?_ ?_ body_own rfl
    rotate_left
    · intro y5 c4
      refine pgk_name 1 ?_ nd
      refine psk_cons ?_
      refine ps1_expr ?_
      refine pek_has h_number_at hr hg body_passes ?_
      refine pak_cons ?_
      refine pek_va 0 ?_
      refine pak_cons ?_
      refine pek_va 1 ?_
      refine pak_cons ?_
      refine pek_ix ?_
      refine pek_cst B.c_MAGIC ?_
      refine pek_va 1 ?_
      refine ⟨_, _, _, rfl, rfl, rfl, fun z6 => ?_⟩
      refine pak_cons ?_
      refine pek_ix ?_
      refine pek_cst B.c_MAGIC ?_
      refine pek_va 1 ?_
      refine ⟨_, _, _, rfl, rfl, rfl, fun z7 => ?_⟩
      refine pak_nil ?_
      refine ⟨(a, y5, z6, z7), _, rfl, (show List.Nodup ([] : List Nat) by decide), rfl, fun b8 => ?_⟩
      refine psk_nil ?_
      exact ⟨(), (.keep (.drop (.keep (.keep (.keep (.keep (.keep (.keep .nil)))))))), rfl⟩
    refine pik_r1 B.range ?_
    refine pak_cons ?_
    refine pek_blt blt_len B.len ?_
    refine pak_cons ?_
    refine pek_cst B.c_MAGIC ?_
    refine pak_nil ?_
    refine ⟨_, _, rfl, rfl, fun z1 => ?_⟩
    refine pak_nil ?_
    refine ⟨_, _, rfl, rfl, fun i2 j3 => ?_⟩
    refine ⟨(), _, (.keep (.keep (.keep (.keep (.keep (.keep (.keep (.keep .nil)))))))), rfl, fun c9 => ?_⟩
    refine psk_cons ?_
    refine ps1_asg [2, 3] ?_
    refine pek_has h_read_name hr hg body_passes ?_
    refine pak_cons ?_
    refine pek_va 0 ?_
    refine pak_cons ?_
    refine pek_blt blt_len B.len ?_
    refine pak_cons ?_
    refine pek_cst B.c_MAGIC ?_
    refine pak_nil ?_
    refine ⟨_, _, rfl, rfl, fun z10 => ?_⟩
    refine pak_nil ?_
    refine ⟨(a, z10), _, rfl, (show List.Nodup ([] : List Nat) by decide), rfl, fun b11 => ?_⟩
    refine ⟨_, rfl, ?_⟩
    refine pgk_t2 ⟨_, rfl, fun u12 u13 => ?_⟩ rfl
    refine pgsk_cons ?_
    refine pgk_name 2 ?_ nd
    refine pgsk_cons ?_
    refine pgk_name 3 ?_ nd
    refine pgsk_nil ?_
    refine psk_cons ?_
    refine ps1_asg [4, 3] ?_
    refine pek_has h_read_rows_read_name hr hg body_passes ?_
    refine pak_cons ?_
    refine pek_va 0 ?_
    refine pak_cons ?_
    refine pek_va 3 ?_
    refine pak_cons ?_
    refine pek_hasN h_read_name ?_
    refine pak_nil ?_
    refine ⟨(a, u13), _, rfl, (show List.Nodup ([] : List Nat) by decide), rfl, fun b14 => ?_⟩
    refine ⟨_, rfl, ?_⟩
    refine pgk_t2 ⟨_, rfl, fun u15 u16 => ?_⟩ rfl
    refine pgsk_cons ?_
    refine pgk_name 4 ?_ nd
    refine pgsk_cons ?_
    refine pgk_name 3 ?_ nd
    refine pgsk_nil ?_
    refine psk_cons ?_
    refine ps1_asg [5, 3] ?_
    refine pek_has h_read_rows_read_rule hr hg body_passes ?_
    refine pak_cons ?_
    refine pek_va 0 ?_
    refine pak_cons ?_
    refine pek_va 3 ?_
    refine pak_cons ?_
    refine pek_hasN h_read_rule ?_
    refine pak_nil ?_
    refine ⟨(a, u16), _, rfl, (show List.Nodup ([] : List Nat) by decide), rfl, fun b17 => ?_⟩
    refine ⟨_, rfl, ?_⟩
    refine pgk_t2 ⟨_, rfl, fun u18 u19 => ?_⟩ rfl
    refine pgsk_cons ?_
    refine pgk_name 5 ?_ nd
    refine pgsk_cons ?_
    refine pgk_name 3 ?_ nd
    refine pgsk_nil ?_
    refine psk_cons ?_
    refine ps1_asg [6, 3] ?_
    refine pek_has h_read_rows_read_block hr hg body_passes ?_
    refine pak_cons ?_
    refine pek_va 0 ?_
    refine pak_cons ?_
    refine pek_va 3 ?_
    refine pak_cons ?_
    refine pek_hasN h_read_block ?_
    refine pak_nil ?_
    refine ⟨(a, u19), _, rfl, (show List.Nodup ([] : List Nat) by decide), rfl, fun b20 => ?_⟩
    refine ⟨_, rfl, ?_⟩
    refine pgk_t2 ⟨_, rfl, fun u21 u22 => ?_⟩ rfl
    refine pgsk_cons ?_
    refine pgk_name 6 ?_ nd
    refine pgsk_cons ?_
    refine pgk_name 3 ?_ nd
    refine pgsk_nil ?_
    refine psk_cons ?_
    refine ps1_asg [7, 3] ?_
    refine pek_has h_read_rows_read_entry hr hg body_passes ?_
    refine pak_cons ?_
    refine pek_va 0 ?_
    refine pak_cons ?_
    refine pek_va 3 ?_
    refine pak_cons ?_
    refine pek_hasN h_read_entry ?_
    refine pak_nil ?_
    refine ⟨(a, u22), _, rfl, (show List.Nodup ([] : List Nat) by decide), rfl, fun b23 => ?_⟩
    refine ⟨_, rfl, ?_⟩
    refine pgk_t2 ⟨_, rfl, fun u24 u25 => ?_⟩ rfl
    refine pgsk_cons ?_
    refine pgk_name 7 ?_ nd
    refine pgsk_cons ?_
    refine pgk_name 3 ?_ nd
    refine pgsk_nil ?_
    refine psk_cons ?_
    refine ps1_if ?_
    refine ptk_cmp (cmp_ne hu) ?_
    refine pek_va 3 ?_
    refine pek_blt blt_len B.len ?_
    refine pak_cons ?_
    refine pek_va 0 ?_
    refine pak_nil ?_
    refine ⟨_, _, rfl, rfl, fun z26 => ?_⟩
    refine AfterC.ite rfl rfl rfl ?_ ?_
    · exact psk_stuck
    · refine psk_nil ?_
      refine psk_cons (ps1_ret ?_)
      refine pek_tup ?_
      refine pak_cons ?_
      refine pek_va 2 ?_
      refine pak_cons ?_
      refine pek_va 4 ?_
      refine pak_cons ?_
      refine pek_va 5 ?_
      refine pak_cons ?_
      refine pek_va 6 ?_
      refine pak_cons ?_
      refine pek_va 7 ?_
      refine pak_nil ?_
      refine ⟨_, rfl, Nat.le_of_ble_eq_true rfl, ?_⟩
      refine ⟨_, rfl, ?_⟩
      exact rt_d rfl
def m__law_draw (a : List D × D) : R (D × List D) :=
  R.opt (ixD (.list a.1) (.int 2)) fun z1 =>
  R.ite (eqD z1 (.int 0)) (
  R.opt (ixD (.list a.1) (.int 1)) fun z2 =>
  R.bind (R.opt (ixD (.list a.1) (.int 0)) fun z4 =>
  R.opt (lenD [z4]) fun z5 =>
  R.ite (ltD z2 z5) (
  R.opt (ixD (.list a.1) (.int 0)) fun z6 =>
  R.opt (ixD z6 z2) fun z7 =>
  R.opt (intD [z7]) fun z8 =>
  R.opt (absD [z8]) fun z9 =>
  .ok (.nx (a.1, z9))) (
  R.opt (ixD (.list a.1) (.int 3)) fun z10 =>
  R.opt (mulD z10 (.int 48271)) fun z11 =>
  R.opt (addD z11 z2) fun z12 =>
  R.opt (addD z12 (.int 1)) fun z13 =>
  R.opt (intD [z13]) fun z14 =>
  R.opt (modD z14 (.int 2147483647)) fun z15 =>
  R.opt (stD a.1 (.int 3) z15) fun z16 =>
  R.opt (ixD (.list z16) (.int 3)) fun z17 =>
  .ok (.nx (z16, z17)))) (nxK fun (c3 : List D × D) =>
  R.opt (addD z2 (.int 1)) fun z18 =>
  R.opt (stD c3.1 (.int 1) z18) fun z19 =>
  R.opt (powD (.int 10) (.int 18)) fun z20 =>
  R.ite (ltD c3.2 z20) (
  R.opt (mulD c3.2 (.int 48271)) fun z21 =>
  R.opt (mulD z2 (.int 69621)) fun z22 =>
  R.opt (addD z21 z22) fun z23 =>
  R.opt (addD z23 (.int 5)) fun z24 =>
  R.opt (intD [z24]) fun z25 =>
  R.opt (modD z25 (.int 2147483647)) fun z26 =>
  R.opt (mulD z26 (.int 69621)) fun z27 =>
  R.opt (intD [z27]) fun z28 =>
  R.opt (modD z28 (.int 2147483629)) fun z29 =>
  R.opt (intD [z29]) fun z30 =>
  R.opt (maxD [a.2, (.int 1)]) fun z31 =>
  R.opt (modD z30 z31) fun z32 =>
  .ok (z32, z19)) (
  R.opt (stD z19 (.int 2) c3.2) fun z33 =>
  R.opt (ixD (.list z33) (.int 2)) fun z34 =>
  R.opt (maxD [a.2, (.int 2)]) fun z35 =>
  R.opt (fdivD z34 z35) fun z36 =>
  R.opt (stD z33 (.int 2) z36) fun z37 =>
  R.opt (intD [z34]) fun z38 =>
  R.opt (maxD [a.2, (.int 1)]) fun z39 =>
  R.opt (modD z38 z39) fun z40 =>
  .ok (z40, z37)))) (
  R.opt (ixD (.list a.1) (.int 2)) fun z41 =>
  R.opt (maxD [a.2, (.int 2)]) fun z42 =>
  R.opt (fdivD z41 z42) fun z43 =>
  R.opt (stD a.1 (.int 2) z43) fun z44 =>
  R.opt (intD [z41]) fun z45 =>
  R.opt (maxD [a.2, (.int 1)]) fun z46 =>
  R.opt (modD z45 z46) fun z47 =>
  .ok (z47, z44))
theorem cov__law_draw : ∀ (a : List D × D) (b : D × List D) (j : Nat) (o : Ob), (ea__law_draw a)[j]? = some (.w o) → ∃ o', (j, o') ∈ ((erDW 0) b).2 := by
  intro a b j o h
  rcases j with _ | _ | j
  · exact ⟨_, List.Mem.head _⟩
  · cases h
  · cases h
theorem h__law_draw {k : Nat} (hk : 7 ≤ k) (hD : DefAt K mg "_law_draw" s__law_draw P__law_draw) (B : Bl K w mg) : Has P w K mg base (k + 1) "_law_draw" P__law_draw ea__law_draw (erDW 0) m__law_draw := by
  refine Has.mk' (N := N__law_draw) hD ⟨rfl, rfl, rfl, by decide +kernel, rfl, by decide +kernel, by decide +kernel⟩ (fun _ => rfl) (cov__law_draw) fun f cd A outer s H E W F a hr hg => ?main
  case main =>
    have nd : N__law_draw.Nodup := by decide +kernel
    have hu := room_eq hr hk
    refine psk_cons ?_
    refine ps1_if ?_
    refine ptk_cmp (cmp_eq hu) ?_
    refine pek_ix ?_
    refine pek_ow 0 ?_
    refine pek_int ?_
    refine ⟨_, _, _, rfl, rfl, rfl, fun z1 => ?_⟩
    refine pek_int ?_
    refine AfterC.ite rfl rfl rfl ?_ ?_
    · refine psk_cons ?_
      refine ps1_set 2 ?_ nd
      refine pek_ix ?_
      refine pek_ow 0 ?_
      refine pek_int ?_
      refine ⟨_, _, _, rfl, rfl, rfl, fun z2 => ?_⟩
      refine ⟨_, rfl, ?_⟩
      refine psk_cons ?_
      refine ps1_set 3 ?_ nd
      refine pek_int ?_
      refine ⟨_, rfl, ?_⟩
      refine psk_cons ?_
      refine ps1_joinK (fun (c3 : List D × D) => [.ow (some 0) (.ls c3.1), .va a.2, .va z2, .va c3.2]) rfl ?_ (fun c3 => ?_)
      · refine ps1_if ?_
        refine ptk_cmp cmp_lt ?_
        refine pek_va 2 ?_
        refine pek_blt blt_len B.len ?_
        refine pak_cons ?_
        refine pek_ix ?_
        refine pek_ow 0 ?_
        refine pek_int ?_
        refine ⟨_, _, _, rfl, rfl, rfl, fun z4 => ?_⟩
        refine pak_nil ?_
        refine ⟨_, _, rfl, rfl, fun z5 => ?_⟩
        refine AfterC.ite rfl rfl rfl ?_ ?_
        · refine psk_cons ?_
          refine ps1_set 3 ?_ nd
          refine pek_blt blt_abs B.abs ?_
          refine pak_cons ?_
          refine pek_ty blt_int B.int ?_
          refine pak_cons ?_
          refine pek_ix ?_
          refine pek_ix ?_
          refine pek_ow 0 ?_
          refine pek_int ?_
          refine ⟨_, _, _, rfl, rfl, rfl, fun z6 => ?_⟩
          refine pek_va 2 ?_
          refine ⟨_, _, _, rfl, rfl, rfl, fun z7 => ?_⟩
          refine pak_nil ?_
          refine ⟨_, _, rfl, rfl, fun z8 => ?_⟩
          refine pak_nil ?_
          refine ⟨_, _, rfl, rfl, fun z9 => ?_⟩
          refine ⟨_, rfl, ?_⟩
          refine psk_nil ?_
          exact ⟨(a.1, z9), (.keep (.keep (.keep (.keep .nil)))), rfl⟩
        · refine psk_cons ?_
          refine ps1_store 0 ?_
          refine pek_bin bin_mod ?_
          refine pek_ty blt_int B.int ?_
          refine pak_cons ?_
          refine pek_bin bin_add ?_
          refine pek_bin bin_add ?_
          refine pek_bin bin_mul ?_
          refine pek_ix ?_
          refine pek_ow 0 ?_
          refine pek_int ?_
          refine ⟨_, _, _, rfl, rfl, rfl, fun z10 => ?_⟩
          refine pek_int ?_
          refine ⟨_, _, _, rfl, rfl, rfl, fun z11 => ?_⟩
          refine pek_va 2 ?_
          refine ⟨_, _, _, rfl, rfl, rfl, fun z12 => ?_⟩
          refine pek_int ?_
          refine ⟨_, _, _, rfl, rfl, rfl, fun z13 => ?_⟩
          refine pak_nil ?_
          refine ⟨_, _, rfl, rfl, fun z14 => ?_⟩
          refine pek_int ?_
          refine ⟨_, _, _, rfl, rfl, rfl, fun z15 => ?_⟩
          refine ⟨_, _, _, rfl, rfl, ?_⟩
          refine pek_int ?_
          refine ⟨_, _, _, _, rfl, rfl, rfl, fun z16 => ?_⟩
          refine psk_cons ?_
          refine ps1_set 3 ?_ nd
          refine pek_ix ?_
          refine pek_ow 0 ?_
          refine pek_int ?_
          refine ⟨_, _, _, rfl, rfl, rfl, fun z17 => ?_⟩
          refine ⟨_, rfl, ?_⟩
          refine psk_nil ?_
          exact ⟨(z16, z17), (.keep (.keep (.keep (.keep .nil)))), rfl⟩
      refine psk_cons ?_
      refine ps1_store 0 ?_
      refine pek_bin bin_add ?_
      refine pek_va 2 ?_
      refine pek_int ?_
      refine ⟨_, _, _, rfl, rfl, rfl, fun z18 => ?_⟩
      refine ⟨_, _, _, rfl, rfl, ?_⟩
      refine pek_int ?_
      refine ⟨_, _, _, _, rfl, rfl, rfl, fun z19 => ?_⟩
      refine psk_cons ?_
      refine ps1_if ?_
      refine ptk_cmp cmp_lt ?_
      refine pek_va 3 ?_
      refine pek_bin bin_pow ?_
      refine pek_int ?_
      refine pek_int ?_
      refine ⟨_, _, _, rfl, rfl, rfl, fun z20 => ?_⟩
      refine AfterC.ite rfl rfl rfl ?_ ?_
      · refine psk_cons ?_
        refine ps1_set 3 ?_ nd
        refine pek_bin bin_mod ?_
        refine pek_ty blt_int B.int ?_
        refine pak_cons ?_
        refine pek_bin bin_add ?_
        refine pek_bin bin_add ?_
        refine pek_bin bin_mul ?_
        refine pek_va 3 ?_
        refine pek_int ?_
        refine ⟨_, _, _, rfl, rfl, rfl, fun z21 => ?_⟩
        refine pek_bin bin_mul ?_
        refine pek_va 2 ?_
        refine pek_int ?_
        refine ⟨_, _, _, rfl, rfl, rfl, fun z22 => ?_⟩
        refine ⟨_, _, _, rfl, rfl, rfl, fun z23 => ?_⟩
        refine pek_int ?_
        refine ⟨_, _, _, rfl, rfl, rfl, fun z24 => ?_⟩
        refine pak_nil ?_
        refine ⟨_, _, rfl, rfl, fun z25 => ?_⟩
        refine pek_int ?_
        refine ⟨_, _, _, rfl, rfl, rfl, fun z26 => ?_⟩
        refine ⟨_, rfl, ?_⟩
        refine psk_cons ?_
        refine ps1_set 3 ?_ nd
        refine pek_bin bin_mod ?_
        refine pek_ty blt_int B.int ?_
        refine pak_cons ?_
        refine pek_bin bin_mul ?_
        refine pek_va 3 ?_
        refine pek_int ?_
        refine ⟨_, _, _, rfl, rfl, rfl, fun z27 => ?_⟩
        refine pak_nil ?_
        refine ⟨_, _, rfl, rfl, fun z28 => ?_⟩
        refine pek_int ?_
        refine ⟨_, _, _, rfl, rfl, rfl, fun z29 => ?_⟩
        refine ⟨_, rfl, ?_⟩
        refine psk_cons (ps1_ret ?_)
        refine pek_bin bin_mod ?_
        refine pek_ty blt_int B.int ?_
        refine pak_cons ?_
        refine pek_va 3 ?_
        refine pak_nil ?_
        refine ⟨_, _, rfl, rfl, fun z30 => ?_⟩
        refine pek_blt (blt_max rfl) B.max ?_
        refine pak_cons ?_
        refine pek_va 1 ?_
        refine pak_cons ?_
        refine pek_int ?_
        refine pak_nil ?_
        refine ⟨_, _, rfl, rfl, fun z31 => ?_⟩
        refine ⟨_, _, _, rfl, rfl, rfl, fun z32 => ?_⟩
        refine ⟨_, rfl, ?_⟩
        exact rt_dw rfl rfl
      · refine psk_nil ?_
        refine psk_cons ?_
        refine ps1_store 0 ?_
        refine pek_va 3 ?_
        refine ⟨_, _, _, rfl, rfl, ?_⟩
        refine pek_int ?_
        refine ⟨_, _, _, _, rfl, rfl, rfl, fun z33 => ?_⟩
        refine psk_nil ?_
        refine psk_cons ?_
        refine ps1_set 3 ?_ nd
        refine pek_ix ?_
        refine pek_ow 0 ?_
        refine pek_int ?_
        refine ⟨_, _, _, rfl, rfl, rfl, fun z34 => ?_⟩
        refine ⟨_, rfl, ?_⟩
        refine psk_cons ?_
        refine ps1_store 0 ?_
        refine pek_bin bin_fdiv ?_
        refine pek_va 3 ?_
        refine pek_blt (blt_max rfl) B.max ?_
        refine pak_cons ?_
        refine pek_va 1 ?_
        refine pak_cons ?_
        refine pek_int ?_
        refine pak_nil ?_
        refine ⟨_, _, rfl, rfl, fun z35 => ?_⟩
        refine ⟨_, _, _, rfl, rfl, rfl, fun z36 => ?_⟩
        refine ⟨_, _, _, rfl, rfl, ?_⟩
        refine pek_int ?_
        refine ⟨_, _, _, _, rfl, rfl, rfl, fun z37 => ?_⟩
        refine psk_cons (ps1_ret ?_)
        refine pek_bin bin_mod ?_
        refine pek_ty blt_int B.int ?_
        refine pak_cons ?_
        refine pek_va 3 ?_
        refine pak_nil ?_
        refine ⟨_, _, rfl, rfl, fun z38 => ?_⟩
        refine pek_blt (blt_max rfl) B.max ?_
        refine pak_cons ?_
        refine pek_va 1 ?_
        refine pak_cons ?_
        refine pek_int ?_
        refine pak_nil ?_
        refine ⟨_, _, rfl, rfl, fun z39 => ?_⟩
        refine ⟨_, _, _, rfl, rfl, rfl, fun z40 => ?_⟩
        refine ⟨_, rfl, ?_⟩
        exact rt_dw rfl rfl
    · refine psk_nil ?_
      refine psk_cons ?_
      refine ps1_set 3 ?_ nd
      refine pek_ix ?_
      refine pek_ow 0 ?_
      refine pek_int ?_
      refine ⟨_, _, _, rfl, rfl, rfl, fun z41 => ?_⟩
      refine ⟨_, rfl, ?_⟩
      refine psk_cons ?_
      refine ps1_store 0 ?_
      refine pek_bin bin_fdiv ?_
      refine pek_va 3 ?_
      refine pek_blt (blt_max rfl) B.max ?_
      refine pak_cons ?_
      refine pek_va 1 ?_
      refine pak_cons ?_
      refine pek_int ?_
      refine pak_nil ?_
      refine ⟨_, _, rfl, rfl, fun z42 => ?_⟩
      refine ⟨_, _, _, rfl, rfl, rfl, fun z43 => ?_⟩
      refine ⟨_, _, _, rfl, rfl, ?_⟩
      refine pek_int ?_
      refine ⟨_, _, _, _, rfl, rfl, rfl, fun z44 => ?_⟩
      refine psk_cons (ps1_ret ?_)
      refine pek_bin bin_mod ?_
      refine pek_ty blt_int B.int ?_
      refine pak_cons ?_
      refine pek_va 3 ?_
      refine pak_nil ?_
      refine ⟨_, _, rfl, rfl, fun z45 => ?_⟩
      refine pek_blt (blt_max rfl) B.max ?_
      refine pak_cons ?_
      refine pek_va 1 ?_
      refine pak_cons ?_
      refine pek_int ?_
      refine pak_nil ?_
      refine ⟨_, _, rfl, rfl, fun z46 => ?_⟩
      refine ⟨_, _, _, rfl, rfl, rfl, fun z47 => ?_⟩
      refine ⟨_, rfl, ?_⟩
      exact rt_dw rfl rfl
def m__law_word (a : List D × D) : R (D × List D) :=
  R.opt (addD (.str "abcdefghijklmnopqrstuvwxyz") (.str "ABCDEFGHIJKLMNOPQRSTUVWXYZ0123456789")) fun z1 =>
  R.opt (mulD (.int 26) (.int 62)) fun z2 =>
  R.opt (mulD z2 (.int 62)) fun z3 =>
  R.opt (mulD z3 (.int 4)) fun z4 =>
  R.bind (m__law_draw (a.1, z4)) fun b5 =>
  R.opt (intD [b5.1]) fun z6 =>
  R.opt (modD z6 (.int 26)) fun z7 =>
  R.opt (ixD (.str "abcdefghijklmnopqrstuvwxyz") z7) fun z8 =>
  R.opt (fdivD b5.1 (.int 26)) fun z9 =>
  R.opt (intD [z9]) fun z10 =>
  R.opt (modD z10 (.int 62)) fun z11 =>
  R.opt (ixD z1 z11) fun z12 =>
  R.opt (addD z8 z12) fun z13 =>
  R.opt (fdivD b5.1 (.int 1612)) fun z14 =>
  R.opt (intD [z14]) fun z15 =>
  R.opt (modD z15 (.int 62)) fun z16 =>
  R.opt (ixD z1 z16) fun z17 =>
  R.opt (addD z13 z17) fun z18 =>
  R.opt (fdivD b5.1 (.int 99944)) fun z19 =>
  R.opt (intD [z19]) fun z20 =>
  R.opt (modD z20 (.int 4)) fun z21 =>
  R.ite (eqD z21 (.int 3)) (
  R.opt (addD a.2 z18) fun z22 =>
  R.opt (asInt (.int 16)) fun z23 =>
  R.opt (slD z22 none (some z23)) fun z24 =>
  .ok (z24, b5.2)) (
  R.opt (addD (.int 1) z21) fun z25 =>
  R.opt (asInt z25) fun z26 =>
  R.opt (slD z18 none (some z26)) fun z27 =>
  .ok (z27, b5.2))
theorem cov__law_word : ∀ (a : List D × D) (b : D × List D) (j : Nat) (o : Ob), (ea__law_word a)[j]? = some (.w o) → ∃ o', (j, o') ∈ ((erDW 0) b).2 := by
  intro a b j o h
  rcases j with _ | _ | j
  · exact ⟨_, List.Mem.head _⟩
  · cases h
  · cases h
theorem h__law_word {k : Nat} (hk : 7 ≤ k) (hD : DefAt K mg "_law_word" s__law_word P__law_word) (B : Bl K w mg) (h__law_draw : Has P w K mg base k "_law_draw" P__law_draw ea__law_draw (erDW 0) m__law_draw) : Has P w K mg base (k + 1) "_law_word" P__law_word ea__law_word (erDW 0) m__law_word := by
  refine Has.mk' (N := N__law_word) hD ⟨rfl, rfl, rfl, by decide +kernel, rfl, by decide +kernel, by decide +kernel⟩ (fun _ => rfl) (cov__law_word) fun f cd A outer s H E W F a hr hg => ?main
  case main =>
    have nd : N__law_word.Nodup := by decide +kernel
    have hu := room_eq hr hk
    refine psk_cons ?_
    refine ps1_set 2 ?_ nd
    refine pek_str ?_
    refine ⟨_, rfl, ?_⟩
    refine psk_cons ?_
    refine ps1_set 3 ?_ nd
    refine pek_bin bin_add ?_
    refine pek_va 2 ?_
    refine pek_str ?_
    refine ⟨_, _, _, rfl, rfl, rfl, fun z1 => ?_⟩
    refine ⟨_, rfl, ?_⟩
    refine psk_cons ?_
    refine ps1_set 4 ?_ nd
    refine pek_has h__law_draw hr hg body_passes ?_
    refine pak_cons ?_
    refine pek_ow 0 ?_
    refine pak_cons ?_
    refine pek_bin bin_mul ?_
    refine pek_bin bin_mul ?_
    refine pek_bin bin_mul ?_
    refine pek_int ?_
    refine pek_int ?_
    refine ⟨_, _, _, rfl, rfl, rfl, fun z2 => ?_⟩
    refine pek_int ?_
    refine ⟨_, _, _, rfl, rfl, rfl, fun z3 => ?_⟩
    refine pek_int ?_
    refine ⟨_, _, _, rfl, rfl, rfl, fun z4 => ?_⟩
    refine pak_nil ?_
    refine ⟨(a.1, z4), _, rfl, (show List.Nodup ([0] : List Nat) by decide), rfl, fun b5 => ?_⟩
    refine ⟨_, rfl, ?_⟩
    refine psk_cons ?_
    refine ps1_set 5 ?_ nd
    refine pek_bin bin_add ?_
    refine pek_bin bin_add ?_
    refine pek_ix ?_
    refine pek_va 2 ?_
    refine pek_bin bin_mod ?_
    refine pek_ty blt_int B.int ?_
    refine pak_cons ?_
    refine pek_va 4 ?_
    refine pak_nil ?_
    refine ⟨_, _, rfl, rfl, fun z6 => ?_⟩
    refine pek_int ?_
    refine ⟨_, _, _, rfl, rfl, rfl, fun z7 => ?_⟩
    refine ⟨_, _, _, rfl, rfl, rfl, fun z8 => ?_⟩
    refine pek_ix ?_
    refine pek_va 3 ?_
    refine pek_bin bin_mod ?_
    refine pek_ty blt_int B.int ?_
    refine pak_cons ?_
    refine pek_bin bin_fdiv ?_
    refine pek_va 4 ?_
    refine pek_int ?_
    refine ⟨_, _, _, rfl, rfl, rfl, fun z9 => ?_⟩
    refine pak_nil ?_
    refine ⟨_, _, rfl, rfl, fun z10 => ?_⟩
    refine pek_int ?_
    refine ⟨_, _, _, rfl, rfl, rfl, fun z11 => ?_⟩
    refine ⟨_, _, _, rfl, rfl, rfl, fun z12 => ?_⟩
    refine ⟨_, _, _, rfl, rfl, rfl, fun z13 => ?_⟩
    refine pek_ix ?_
    refine pek_va 3 ?_
    refine pek_bin bin_mod ?_
    refine pek_ty blt_int B.int ?_
    refine pak_cons ?_
    refine pek_bin bin_fdiv ?_
    refine pek_va 4 ?_
    refine pek_int ?_
    refine ⟨_, _, _, rfl, rfl, rfl, fun z14 => ?_⟩
    refine pak_nil ?_
    refine ⟨_, _, rfl, rfl, fun z15 => ?_⟩
    refine pek_int ?_
    refine ⟨_, _, _, rfl, rfl, rfl, fun z16 => ?_⟩
    refine ⟨_, _, _, rfl, rfl, rfl, fun z17 => ?_⟩
    refine ⟨_, _, _, rfl, rfl, rfl, fun z18 => ?_⟩
    refine ⟨_, rfl, ?_⟩
    refine psk_cons ?_
    refine ps1_set 6 ?_ nd
    refine pek_bin bin_mod ?_
    refine pek_ty blt_int B.int ?_
    refine pak_cons ?_
    refine pek_bin bin_fdiv ?_
    refine pek_va 4 ?_
    refine pek_int ?_
    refine ⟨_, _, _, rfl, rfl, rfl, fun z19 => ?_⟩
    refine pak_nil ?_
    refine ⟨_, _, rfl, rfl, fun z20 => ?_⟩
    refine pek_int ?_
    refine ⟨_, _, _, rfl, rfl, rfl, fun z21 => ?_⟩
    refine ⟨_, rfl, ?_⟩
    refine psk_cons ?_
    refine ps1_if ?_
    refine ptk_cmp (cmp_eq hu) ?_
    refine pek_va 6 ?_
    refine pek_int ?_
    refine AfterC.ite rfl rfl rfl ?_ ?_
    · refine psk_cons (ps1_ret ?_)
      refine pek_sl ?_
      refine pek_bin bin_add ?_
      refine pek_va 1 ?_
      refine pek_va 5 ?_
      refine ⟨_, _, _, rfl, rfl, rfl, fun z22 => ?_⟩
      refine pok_none ?_
      refine pok_s ?_
      refine pek_int ?_
      refine ⟨_, _, rfl, rfl, fun z23 => ?_⟩
      refine ⟨_, _, rfl, rfl, fun z24 => ?_⟩
      refine ⟨_, rfl, ?_⟩
      exact rt_dw rfl rfl
    · refine psk_nil ?_
      refine psk_cons (ps1_ret ?_)
      refine pek_sl ?_
      refine pek_va 5 ?_
      refine pok_none ?_
      refine pok_s ?_
      refine pek_bin bin_add ?_
      refine pek_int ?_
      refine pek_va 6 ?_
      refine ⟨_, _, _, rfl, rfl, rfl, fun z25 => ?_⟩
      refine ⟨_, _, rfl, rfl, fun z26 => ?_⟩
      refine ⟨_, _, rfl, rfl, fun z27 => ?_⟩
      refine ⟨_, rfl, ?_⟩
      exact rt_dw rfl rfl
def b1__law_fresh (a : List D × List D) (y9 : D) (c8 : D) : R (Ct (D)) :=
  R.bif (R.ite (notInD c8 (.list a.2)) (
  R.ite (neD c8 (.str "refl")) (
  .ok true) (
  .ok false)) (
  .ok false)) (
  .ok (.bk c8)) (
  R.opt (asInt (.int 10)) fun z10 =>
  R.opt (slD c8 none (some z10)) fun z11 =>
  R.opt (addD z11 (.str "x")) fun z12 =>
  R.opt (strD [y9]) fun z13 =>
  R.opt (addD z12 z13) fun z14 =>
  .ok (.nx z14))
def m__law_fresh (a : List D × List D) : R (D × List D × List D) :=
  R.bind (m__law_draw (a.1, (.int 2))) fun b1 =>
  R.opt (ixD (.list [(.str ""), (.str "conclusionsOf")]) b1.1) fun z2 =>
  R.bind (m__law_word (b1.2, z2)) fun b3 =>
  R.opt (lenD [(.list a.2)]) fun z4 =>
  R.opt (addD z4 (.int 2)) fun z5 =>
  R.opt2 (rg1 [z5]) fun i6 j7 =>
  R.bind (forL (b1__law_fresh a) (rngD i6 j7) b3.1) (nxK fun (c15 : D) =>
  R.opt (apD a.2 c15) fun z16 =>
  .ok (c15, b3.2, z16))
theorem cov__law_fresh : ∀ (a : List D × List D) (b : D × List D × List D) (j : Nat) (o : Ob), (ea__law_fresh a)[j]? = some (.w o) → ∃ o', (j, o') ∈ ((erDWW 0 1) b).2 := by
  intro a b j o h
  rcases j with _ | _ | j
  · exact ⟨_, List.Mem.head _⟩
  · exact ⟨_, List.Mem.tail _ (List.Mem.head _)⟩
  · cases h
theorem h__law_fresh {k : Nat} (hk : 7 ≤ k) (hD : DefAt K mg "_law_fresh" s__law_fresh P__law_fresh) (B : Bl K w mg) (h__law_word : Has P w K mg base k "_law_word" P__law_word ea__law_word (erDW 0) m__law_word) (h__law_draw : Has P w K mg base k "_law_draw" P__law_draw ea__law_draw (erDW 0) m__law_draw) : Has P w K mg base (k + 1) "_law_fresh" P__law_fresh ea__law_fresh (erDWW 0 1) m__law_fresh := by
  refine Has.mk' (N := N__law_fresh) hD ⟨rfl, rfl, rfl, by decide +kernel, rfl, by decide +kernel, by decide +kernel⟩ (fun _ => rfl) (cov__law_fresh) fun f cd A outer s H E W F a hr hg => ?main
  case main =>
    have nd : N__law_fresh.Nodup := by decide +kernel
    have hu := room_eq hr hk
    refine psk_cons ?_
    refine ps1_set 2 ?_ nd
    refine pek_has h__law_word hr hg body_passes ?_
    refine pak_cons ?_
    refine pek_ow 0 ?_
    refine pak_cons ?_
    refine pek_ix ?_
    refine pek_lst ?_
    refine pak_cons ?_
    refine pek_str ?_
    refine pak_cons ?_
    refine pek_str ?_
    refine pak_nil ?_
    refine ⟨_, rfl, Nat.le_of_ble_eq_true rfl, ?_⟩
    refine pek_has h__law_draw hr hg body_passes ?_
    refine pak_cons ?_
    refine pek_ow 0 ?_
    refine pak_cons ?_
    refine pek_int ?_
    refine pak_nil ?_
    refine ⟨(a.1, (.int 2)), _, rfl, (show List.Nodup ([0] : List Nat) by decide), rfl, fun b1 => ?_⟩
    refine ⟨_, _, _, rfl, rfl, rfl, fun z2 => ?_⟩
    refine pak_nil ?_
    refine ⟨(b1.2, z2), _, rfl, (show List.Nodup ([0] : List Nat) by decide), rfl, fun b3 => ?_⟩
    refine ⟨_, rfl, ?_⟩
    refine psk_cons ?_
    refine ps1_forK [3] (fun (c8 : D) => [.ow (some 0) (.ls b3.2), .ow (some 1) (.ls a.2), .va c8, .no]) (b1__law_fresh a) ?_ ?_ body_own rfl
    rotate_left
    · intro y9 c8
      refine pgk_name 3 ?_ nd
      refine psk_cons ?_
      refine ps1_if ?_
      refine ptk_joinB rfl ?_ ?_ ?_
      · refine ptk_pw ?_
        refine pwk_and ?_
        refine ptk_cmp cmp_notIn ?_
        refine pek_va 2 ?_
        refine pek_ow 1 ?_
        refine AfterC.ite rfl rfl rfl ?_ ?_
        · refine pwk_and1 ?_
          refine ptk_cmp (cmp_ne hu) ?_
          refine pek_va 2 ?_
          refine pek_str ?_
          refine AfterC.ite rfl rfl rfl ?_ ?_
          · exact ⟨rfl, rfl⟩
          · exact ⟨rfl, rfl⟩
        · exact ⟨rfl, rfl⟩
      · refine psk_cons (ps1_break ?_)
        exact ⟨c8, (.keep (.keep (.keep (.drop .nil)))), rfl⟩
      · refine psk_nil ?_
        refine psk_cons ?_
        refine ps1_set 2 ?_ nd
        refine pek_bin bin_add ?_
        refine pek_bin bin_add ?_
        refine pek_sl ?_
        refine pek_va 2 ?_
        refine pok_none ?_
        refine pok_s ?_
        refine pek_int ?_
        refine ⟨_, _, rfl, rfl, fun z10 => ?_⟩
        refine ⟨_, _, rfl, rfl, fun z11 => ?_⟩
        refine pek_str ?_
        refine ⟨_, _, _, rfl, rfl, rfl, fun z12 => ?_⟩
        refine pek_ty blt_str B.str ?_
        refine pak_cons ?_
        refine pek_va 3 ?_
        refine pak_nil ?_
        refine ⟨_, _, rfl, rfl, fun z13 => ?_⟩
        refine ⟨_, _, _, rfl, rfl, rfl, fun z14 => ?_⟩
        refine ⟨_, rfl, ?_⟩
        refine psk_nil ?_
        exact ⟨z14, (.keep (.keep (.keep (.drop .nil)))), rfl⟩
    refine pik_r1 B.range ?_
    refine pak_cons ?_
    refine pek_bin bin_add ?_
    refine pek_blt blt_len B.len ?_
    refine pak_cons ?_
    refine pek_ow 1 ?_
    refine pak_nil ?_
    refine ⟨_, _, rfl, rfl, fun z4 => ?_⟩
    refine pek_int ?_
    refine ⟨_, _, _, rfl, rfl, rfl, fun z5 => ?_⟩
    refine pak_nil ?_
    refine ⟨_, _, rfl, rfl, fun i6 j7 => ?_⟩
    refine ⟨b3.1, _, (.keep (.keep (.keep (.keep .nil)))), rfl, fun c15 => ?_⟩
    refine psk_cons ?_
    refine ps1_append 1 ⟨_, _, rfl, ?_⟩
    refine pek_va 2 ?_
    refine ⟨_, _, _, _, rfl, rfl, rfl, fun z16 => ?_⟩
    refine psk_cons (ps1_ret ?_)
    refine pek_va 2 ?_
    refine ⟨_, rfl, ?_⟩
    exact rt_dww rfl rfl rfl
def b1__law_written_name  (y4 : D) (c3 : Unit) : R (D × Unit) :=
  R.opt (ordD [y4]) fun z7 =>
  .ok (z7, ())
def m__law_written_name (a : D) : R (D) :=
  R.opt (lenD [a]) fun z1 =>
  R.opt (seqD a) fun l2 =>
  R.bind2 (lcL b1__law_written_name l2 () []) fun l8 c9 =>
  R.opt (addD (.list [z1]) (.list l8)) fun z10 =>
  .ok z10
theorem cov__law_written_name : ∀ (a : D) (b : D) (j : Nat) (o : Ob), (ea__law_written_name a)[j]? = some (.w o) → ∃ o', (j, o') ∈ (erD b).2 := by
  intro a b j o h
  rcases j with _ | j
  · cases h
  · cases h
theorem h__law_written_name {k : Nat} (hD : DefAt K mg "_law_written_name" s__law_written_name P__law_written_name) (B : Bl K w mg) : Has P w K mg base (k + 1) "_law_written_name" P__law_written_name ea__law_written_name erD m__law_written_name := by
  refine Has.mk' (N := N__law_written_name) hD ⟨rfl, rfl, rfl, by decide +kernel, rfl, by decide +kernel, by decide +kernel⟩ (fun _ => rfl) (cov__law_written_name) fun f cd A outer s H E W F a hr hg => ?main
  case main =>
    have nd : N__law_written_name.Nodup := by decide +kernel
    refine psk_cons (ps1_ret ?_)
    refine pek_bin bin_add ?_
    refine pek_lst ?_
    refine pak_cons ?_
    refine pek_blt blt_len B.len ?_
    refine pak_cons ?_
    refine pek_va 0 ?_
    refine pak_nil ?_
    refine ⟨_, _, rfl, rfl, fun z1 => ?_⟩
    refine pak_nil ?_
    refine ⟨_, rfl, Nat.le_of_ble_eq_true rfl, ?_⟩
    refine pek_lcK [("_law_sign", 1)] (fun (c3 : Unit) => [.va a, .no]) b1__law_written_name ?_ ?_ (by intro c j hj; simp at hj; subst hj; rfl) nd rfl (show BlkOk N__law_written_name (defScope s__law_written_name) _ _ from ⟨rfl, by decide +kernel, by decide +kernel, by decide +kernel, by decide +kernel⟩)
    rotate_left
    · intro s' H' Ca cl fp y4 c3
      refine pgk_name 1 ?_ nd
      intro s2 H2 Ca2 cl2 fp2
      refine pek_blt blt_ord B.ord ?_
      refine pak_cons ?_
      refine pek_va 1 ?_
      refine pak_nil ?_
      refine ⟨_, _, rfl, rfl, fun z7 => ?_⟩
      exact ⟨_, (), rfl, (.keep (.drop .nil)), rfl⟩
    refine pik_seq ?_
    refine pek_va 0 ?_
    refine ⟨_, _, rfl, rfl, fun l2 => ?_⟩
    refine ⟨(), _, (.keep (.keep .nil)), rfl, fun l8 c9 => ?_⟩
    refine ⟨_, _, _, rfl, rfl, rfl, fun z10 => ?_⟩
    refine ⟨_, rfl, ?_⟩
    exact rt_d rfl
def b1__law_joined_up  (y3 : D) (c2 : D) : R (Ct (D)) :=
  R.opt (addD c2 y3) fun z4 =>
  .ok (.nx z4)
def m__law_joined_up (a : D) : R (D) :=
  R.opt (seqD a) fun l1 =>
  R.bind (forL b1__law_joined_up l1 (.list [])) (nxK fun (c5 : D) =>
  .ok c5)
theorem cov__law_joined_up : ∀ (a : D) (b : D) (j : Nat) (o : Ob), (ea__law_joined_up a)[j]? = some (.w o) → ∃ o', (j, o') ∈ (erD b).2 := by
  intro a b j o h
  rcases j with _ | j
  · cases h
  · cases h
theorem h__law_joined_up {k : Nat} (hD : DefAt K mg "_law_joined_up" s__law_joined_up P__law_joined_up) (B : Bl K w mg) : Has P w K mg base (k + 1) "_law_joined_up" P__law_joined_up ea__law_joined_up erD m__law_joined_up := by
  refine Has.mk' (N := N__law_joined_up) hD ⟨rfl, rfl, rfl, by decide +kernel, rfl, by decide +kernel, by decide +kernel⟩ (fun _ => rfl) (cov__law_joined_up) fun f cd A outer s H E W F a hr hg => ?main
  case main =>
    have nd : N__law_joined_up.Nodup := by decide +kernel
    refine psk_cons ?_
    refine ps1_set 1 ?_ nd
    refine pek_frz ?_
    refine pek_lst ?_
    refine pak_nil ?_
    refine ⟨_, rfl, Nat.le_of_ble_eq_true rfl, ?_⟩
    refine ⟨_, rfl, ?_⟩
    refine ⟨_, rfl, ?_⟩
    refine psk_cons ?_
    refine ps1_forK [2] (fun (c2 : D) => [.va a, .va c2, .no]) b1__law_joined_up ?_ ?_ body_own rfl
    rotate_left
    · intro y3 c2
      refine pgk_name 2 ?_ nd
      refine psk_cons ?_
      refine ps1_set 1 ?_ nd
      refine pek_bin bin_add ?_
      refine pek_va 1 ?_
      refine pek_va 2 ?_
      refine ⟨_, _, _, rfl, rfl, rfl, fun z4 => ?_⟩
      refine ⟨_, rfl, ?_⟩
      refine psk_nil ?_
      exact ⟨z4, (.keep (.keep (.drop .nil))), rfl⟩
    refine pik_seq ?_
    refine pek_va 0 ?_
    refine ⟨_, _, rfl, rfl, fun l1 => ?_⟩
    refine ⟨(.list []), _, (.keep (.keep (.keep .nil))), rfl, fun c5 => ?_⟩
    refine psk_cons (ps1_ret ?_)
    refine pek_va 1 ?_
    refine ⟨_, rfl, ?_⟩
    exact rt_d rfl
def b1__law_written_term (q__law_written_term : D → R (D)) (y13 : D) (c12 : Unit) : R (D × Unit) :=
  R.bind (q__law_written_term y13) fun b16 =>
  .ok (b16, ())
def g__law_written_term (q__law_written_term : D → R (D)) (a : D) : R (D) :=
  R.opt (some (isIntD a)) fun z1 =>
  R.ite (truD (.bool z1)) (
  R.opt (fdivD a (.int 256)) fun z2 =>
  R.opt (intD [a]) fun z3 =>
  R.opt (modD z3 (.int 256)) fun z4 =>
  .ok (.list [(.int 0), z2, z4])) (
  R.opt (lenD [a]) fun z5 =>
  R.opt (ixD a (.int 0)) fun z6 =>
  R.bind (m__law_written_name z6) fun b7 =>
  R.opt (addD (.list [z5]) b7) fun z8 =>
  R.opt (asInt (.int 1)) fun z9 =>
  R.opt (slD a (some z9) none) fun z10 =>
  R.opt (seqD z10) fun l11 =>
  R.bind2 (lcL (b1__law_written_term q__law_written_term) l11 () []) fun l17 c18 =>
  R.bind (m__law_joined_up (.list l17)) fun b19 =>
  R.opt (addD z8 b19) fun z20 =>
  .ok z20)
theorem cov__law_written_term : ∀ (a : D) (b : D) (j : Nat) (o : Ob), (ea__law_written_term a)[j]? = some (.w o) → ∃ o', (j, o') ∈ (erD b).2 := by
  intro a b j o h
  rcases j with _ | j
  · cases h
  · cases h
theorem hg__law_written_term {k : Nat} (hD : DefAt K mg "_law_written_term" s__law_written_term P__law_written_term) (B : Bl K w mg) {q__law_written_term : D → R (D)} (h__law_written_name : Has P w K mg base k "_law_written_name" P__law_written_name ea__law_written_name erD m__law_written_name) (h__law_joined_up : Has P w K mg base k "_law_joined_up" P__law_joined_up ea__law_joined_up erD m__law_joined_up) (h__law_written_term : Has P w K mg base k "_law_written_term" P__law_written_term ea__law_written_term erD q__law_written_term) : Has P w K mg base (k + 1) "_law_written_term" P__law_written_term ea__law_written_term erD (g__law_written_term q__law_written_term) := by
  refine Has.mk' (N := N__law_written_term) hD ⟨rfl, rfl, rfl, by decide +kernel, rfl, by decide +kernel, by decide +kernel⟩ (fun _ => rfl) (cov__law_written_term) fun f cd A outer s H E W F a hr hg => ?main
  case main =>
    have nd : N__law_written_term.Nodup := by decide +kernel
    refine psk_cons ?_
    refine ps1_if ?_
    refine ptk_tru ?_
    refine pek_isi is_int B.isinstance B.int ?_
    refine pek_va 0 ?_
    refine AfterN.opt rfl rfl fun z1 => ?_
    refine AfterT.ite rfl rfl ?_ ?_
    · refine psk_cons (ps1_ret ?_)
      refine pek_frz ?_
      refine pek_lst ?_
      refine pak_cons ?_
      refine pek_int ?_
      refine pak_cons ?_
      refine pek_bin bin_fdiv ?_
      refine pek_va 0 ?_
      refine pek_int ?_
      refine ⟨_, _, _, rfl, rfl, rfl, fun z2 => ?_⟩
      refine pak_cons ?_
      refine pek_bin bin_mod ?_
      refine pek_ty blt_int B.int ?_
      refine pak_cons ?_
      refine pek_va 0 ?_
      refine pak_nil ?_
      refine ⟨_, _, rfl, rfl, fun z3 => ?_⟩
      refine pek_int ?_
      refine ⟨_, _, _, rfl, rfl, rfl, fun z4 => ?_⟩
      refine pak_nil ?_
      refine ⟨_, rfl, Nat.le_of_ble_eq_true rfl, ?_⟩
      refine ⟨_, rfl, ?_⟩
      refine ⟨_, rfl, ?_⟩
      exact rt_d rfl
    · refine psk_nil ?_
      refine psk_cons (ps1_ret ?_)
      refine pek_bin bin_add ?_
      refine pek_bin bin_add ?_
      refine pek_lst ?_
      refine pak_cons ?_
      refine pek_blt blt_len B.len ?_
      refine pak_cons ?_
      refine pek_va 0 ?_
      refine pak_nil ?_
      refine ⟨_, _, rfl, rfl, fun z5 => ?_⟩
      refine pak_nil ?_
      refine ⟨_, rfl, Nat.le_of_ble_eq_true rfl, ?_⟩
      refine pek_has h__law_written_name hr hg body_passes ?_
      refine pak_cons ?_
      refine pek_ix ?_
      refine pek_va 0 ?_
      refine pek_int ?_
      refine ⟨_, _, _, rfl, rfl, rfl, fun z6 => ?_⟩
      refine pak_nil ?_
      refine ⟨z6, _, rfl, (show List.Nodup ([] : List Nat) by decide), rfl, fun b7 => ?_⟩
      refine ⟨_, _, _, rfl, rfl, rfl, fun z8 => ?_⟩
      refine pek_has h__law_joined_up hr hg body_passes ?_
      refine pak_cons ?_
      refine pek_frz ?_
      refine pek_lcK [("_law_part", 1)] (fun (c12 : Unit) => [.va a, .no]) (b1__law_written_term q__law_written_term) ?_ ?_ (by intro c j hj; simp at hj; subst hj; rfl) nd rfl (show BlkOk N__law_written_term (defScope s__law_written_term) _ _ from ⟨rfl, by decide +kernel, by decide +kernel, by decide +kernel, by decide +kernel⟩)
      rotate_left
      · intro s' H' Ca cl fp y13 c12
        refine pgk_name 1 ?_ nd
        intro s2 H2 Ca2 cl2 fp2
        refine pek_has h__law_written_term hr hg blk_passes ?_
        refine pak_cons ?_
        refine pek_va 1 ?_
        refine pak_nil ?_
        refine ⟨y13, _, rfl, (show List.Nodup ([] : List Nat) by decide), rfl, fun b16 => ?_⟩
        exact ⟨_, (), rfl, (.keep (.drop .nil)), rfl⟩
      refine pik_seq ?_
      refine pek_sl ?_
      refine pek_va 0 ?_
      refine pok_s ?_
      refine pek_int ?_
      refine ⟨_, _, rfl, rfl, fun z9 => ?_⟩
      refine pok_none ?_
      refine ⟨_, _, rfl, rfl, fun z10 => ?_⟩
      refine ⟨_, _, rfl, rfl, fun l11 => ?_⟩
      refine ⟨(), _, (.keep (.keep .nil)), rfl, fun l17 c18 => ?_⟩
      refine ⟨_, rfl, ?_⟩
      refine pak_nil ?_
      refine ⟨(.list l17), _, rfl, (show List.Nodup ([] : List Nat) by decide), rfl, fun b19 => ?_⟩
      refine ⟨_, _, _, rfl, rfl, rfl, fun z20 => ?_⟩
      refine ⟨_, rfl, ?_⟩
      exact rt_d rfl
def m__law_written_term : Nat → D → R (D)
  | 0 => fun _ => .stuck
  | n + 1 => g__law_written_term (m__law_written_term n)
def m__law_written_list (a : D) : R (D) :=
  R.opt (lenD [a]) fun z1 =>
  R.bind (m__law_joined_up a) fun b2 =>
  R.opt (addD (.list [z1]) b2) fun z3 =>
  .ok z3
theorem cov__law_written_list : ∀ (a : D) (b : D) (j : Nat) (o : Ob), (ea__law_written_list a)[j]? = some (.w o) → ∃ o', (j, o') ∈ (erD b).2 := by
  intro a b j o h
  rcases j with _ | j
  · cases h
  · cases h
theorem h__law_written_list {k : Nat} (hD : DefAt K mg "_law_written_list" s__law_written_list P__law_written_list) (B : Bl K w mg) (h__law_joined_up : Has P w K mg base k "_law_joined_up" P__law_joined_up ea__law_joined_up erD m__law_joined_up) : Has P w K mg base (k + 1) "_law_written_list" P__law_written_list ea__law_written_list erD m__law_written_list := by
  refine Has.mk' (N := N__law_written_list) hD ⟨rfl, rfl, rfl, by decide +kernel, rfl, by decide +kernel, by decide +kernel⟩ (fun _ => rfl) (cov__law_written_list) fun f cd A outer s H E W F a hr hg => ?main
  case main =>
    have nd : N__law_written_list.Nodup := by decide +kernel
    refine psk_cons (ps1_ret ?_)
    refine pek_bin bin_add ?_
    refine pek_lst ?_
    refine pak_cons ?_
    refine pek_blt blt_len B.len ?_
    refine pak_cons ?_
    refine pek_va 0 ?_
    refine pak_nil ?_
    refine ⟨_, _, rfl, rfl, fun z1 => ?_⟩
    refine pak_nil ?_
    refine ⟨_, rfl, Nat.le_of_ble_eq_true rfl, ?_⟩
    refine pek_has h__law_joined_up hr hg body_passes ?_
    refine pak_cons ?_
    refine pek_va 0 ?_
    refine pak_nil ?_
    refine ⟨a, _, rfl, (show List.Nodup ([] : List Nat) by decide), rfl, fun b2 => ?_⟩
    refine ⟨_, _, _, rfl, rfl, rfl, fun z3 => ?_⟩
    refine ⟨_, rfl, ?_⟩
    exact rt_d rfl
def b1__law_written_terms  (y3 : D) (c2 : Unit) : R (D × Unit) :=
  R.bind ((m__law_written_term 24) y3) fun b6 =>
  .ok (b6, ())
def m__law_written_terms (a : D) : R (D) :=
  R.opt (seqD a) fun l1 =>
  R.bind2 (lcL b1__law_written_terms l1 () []) fun l7 c8 =>
  R.bind (m__law_written_list (.list l7)) fun b9 =>
  .ok b9
theorem cov__law_written_terms : ∀ (a : D) (b : D) (j : Nat) (o : Ob), (ea__law_written_terms a)[j]? = some (.w o) → ∃ o', (j, o') ∈ (erD b).2 := by
  intro a b j o h
  rcases j with _ | j
  · cases h
  · cases h
theorem h__law_written_terms {k : Nat} (hD : DefAt K mg "_law_written_terms" s__law_written_terms P__law_written_terms) (B : Bl K w mg) (h__law_written_list : Has P w K mg base k "_law_written_list" P__law_written_list ea__law_written_list erD m__law_written_list) (h__law_written_term : Has P w K mg base k "_law_written_term" P__law_written_term ea__law_written_term erD (m__law_written_term 24)) : Has P w K mg base (k + 1) "_law_written_terms" P__law_written_terms ea__law_written_terms erD m__law_written_terms := by
  refine Has.mk' (N := N__law_written_terms) hD ⟨rfl, rfl, rfl, by decide +kernel, rfl, by decide +kernel, by decide +kernel⟩ (fun _ => rfl) (cov__law_written_terms) fun f cd A outer s H E W F a hr hg => ?main
  case main =>
    have nd : N__law_written_terms.Nodup := by decide +kernel
    refine psk_cons (ps1_ret ?_)
    refine pek_has h__law_written_list hr hg body_passes ?_
    refine pak_cons ?_
    refine pek_frz ?_
    refine pek_lcK [("_law_term", 1)] (fun (c2 : Unit) => [.va a, .no]) b1__law_written_terms ?_ ?_ (by intro c j hj; simp at hj; subst hj; rfl) nd rfl (show BlkOk N__law_written_terms (defScope s__law_written_terms) _ _ from ⟨rfl, by decide +kernel, by decide +kernel, by decide +kernel, by decide +kernel⟩)
    rotate_left
    · intro s' H' Ca cl fp y3 c2
      refine pgk_name 1 ?_ nd
      intro s2 H2 Ca2 cl2 fp2
      refine pek_has h__law_written_term hr hg blk_passes ?_
      refine pak_cons ?_
      refine pek_va 1 ?_
      refine pak_nil ?_
      refine ⟨y3, _, rfl, (show List.Nodup ([] : List Nat) by decide), rfl, fun b6 => ?_⟩
      exact ⟨_, (), rfl, (.keep (.drop .nil)), rfl⟩
    refine pik_seq ?_
    refine pek_va 0 ?_
    refine ⟨_, _, rfl, rfl, fun l1 => ?_⟩
    refine ⟨(), _, (.keep (.keep .nil)), rfl, fun l7 c8 => ?_⟩
    refine ⟨_, rfl, ?_⟩
    refine pak_nil ?_
    refine ⟨(.list l7), _, rfl, (show List.Nodup ([] : List Nat) by decide), rfl, fun b9 => ?_⟩
    refine ⟨_, rfl, ?_⟩
    exact rt_d rfl
def b1__law_written_claim  (y5 : D) (c4 : Unit) : R (D × Unit) :=
  R.bind (m__law_written_terms y5) fun b8 =>
  .ok (b8, ())
def m__law_written_claim (a : D) : R (D) :=
  R.opt (ixD a (.int 1)) fun z1 =>
  R.opt (ixD z1 (.int 2)) fun z2 =>
  R.opt (seqD z2) fun l3 =>
  R.bind2 (lcL b1__law_written_claim l3 () []) fun l9 c10 =>
  R.opt (ixD a (.int 0)) fun z11 =>
  R.bind (m__law_written_name z11) fun b12 =>
  R.opt (ixD z1 (.int 0)) fun z13 =>
  R.opt (addD b12 (.list [z13])) fun z14 =>
  R.opt (ixD z1 (.int 1)) fun z15 =>
  R.bind (m__law_written_terms z15) fun b16 =>
  R.opt (addD z14 b16) fun z17 =>
  R.bind (m__law_written_list (.list l9)) fun b18 =>
  R.opt (addD z17 b18) fun z19 =>
  R.opt (ixD a (.int 2)) fun z20 =>
  R.opt (lenD [z20]) fun z21 =>
  R.opt (addD z19 (.list [z21])) fun z22 =>
  R.opt (ixD a (.int 2)) fun z23 =>
  R.opt (listD z23) fun z24 =>
  R.opt (addD z22 (.list z24)) fun z25 =>
  .ok z25
theorem cov__law_written_claim : ∀ (a : D) (b : D) (j : Nat) (o : Ob), (ea__law_written_claim a)[j]? = some (.w o) → ∃ o', (j, o') ∈ (erD b).2 := by
  intro a b j o h
  rcases j with _ | j
  · cases h
  · cases h
theorem h__law_written_claim {k : Nat} (hD : DefAt K mg "_law_written_claim" s__law_written_claim P__law_written_claim) (B : Bl K w mg) (h__law_written_terms : Has P w K mg base k "_law_written_terms" P__law_written_terms ea__law_written_terms erD m__law_written_terms) (h__law_written_name : Has P w K mg base k "_law_written_name" P__law_written_name ea__law_written_name erD m__law_written_name) (h__law_written_list : Has P w K mg base k "_law_written_list" P__law_written_list ea__law_written_list erD m__law_written_list) : Has P w K mg base (k + 1) "_law_written_claim" P__law_written_claim ea__law_written_claim erD m__law_written_claim := by
  refine Has.mk' (N := N__law_written_claim) hD ⟨rfl, rfl, rfl, by decide +kernel, rfl, by decide +kernel, by decide +kernel⟩ (fun _ => rfl) (cov__law_written_claim) fun f cd A outer s H E W F a hr hg => ?main
  case main =>
    have nd : N__law_written_claim.Nodup := by decide +kernel
    refine psk_cons ?_
    refine ps1_set 1 ?_ nd
    refine pek_ix ?_
    refine pek_va 0 ?_
    refine pek_int ?_
    refine ⟨_, _, _, rfl, rfl, rfl, fun z1 => ?_⟩
    refine ⟨_, rfl, ?_⟩
    refine psk_cons ?_
    refine ps1_setLcK 2 [("_law_row", 4)] (fun (c4 : Unit) => [.va a, .va z1, .no, .no, .no]) b1__law_written_claim ?_ ?_ (by intro c j hj; simp at hj; subst hj; rfl) nd rfl (show BlkOk N__law_written_claim (defScope s__law_written_claim) _ _ from ⟨rfl, by decide +kernel, by decide +kernel, by decide +kernel, by decide +kernel⟩) (by rfl)
    rotate_left
    · intro s' H' Ca cl fp y5 c4
      refine pgk_name 4 ?_ nd
      intro s2 H2 Ca2 cl2 fp2
      refine pek_has h__law_written_terms hr hg blk_passes ?_
      refine pak_cons ?_
      refine pek_va 4 ?_
      refine pak_nil ?_
      refine ⟨y5, _, rfl, (show List.Nodup ([] : List Nat) by decide), rfl, fun b8 => ?_⟩
      exact ⟨_, (), rfl, (.keep (.keep (.keep (.keep (.drop .nil))))), rfl⟩
    refine pik_seq ?_
    refine pek_ix ?_
    refine pek_va 1 ?_
    refine pek_int ?_
    refine ⟨_, _, _, rfl, rfl, rfl, fun z2 => ?_⟩
    refine ⟨_, _, rfl, rfl, fun l3 => ?_⟩
    refine ⟨(), _, (.keep (.keep (.keep (.keep (.keep .nil))))), rfl, fun l9 c10 => ?_⟩
    refine psk_fz 2 ?_
    refine psk_cons ?_
    refine ps1_set 3 ?_ nd
    refine pek_bin bin_add ?_
    refine pek_bin bin_add ?_
    refine pek_bin bin_add ?_
    refine pek_has h__law_written_name hr hg body_passes ?_
    refine pak_cons ?_
    refine pek_ix ?_
    refine pek_va 0 ?_
    refine pek_int ?_
    refine ⟨_, _, _, rfl, rfl, rfl, fun z11 => ?_⟩
    refine pak_nil ?_
    refine ⟨z11, _, rfl, (show List.Nodup ([] : List Nat) by decide), rfl, fun b12 => ?_⟩
    refine pek_lst ?_
    refine pak_cons ?_
    refine pek_ix ?_
    refine pek_va 1 ?_
    refine pek_int ?_
    refine ⟨_, _, _, rfl, rfl, rfl, fun z13 => ?_⟩
    refine pak_nil ?_
    refine ⟨_, rfl, Nat.le_of_ble_eq_true rfl, ?_⟩
    refine ⟨_, _, _, rfl, rfl, rfl, fun z14 => ?_⟩
    refine pek_has h__law_written_terms hr hg body_passes ?_
    refine pak_cons ?_
    refine pek_ix ?_
    refine pek_va 1 ?_
    refine pek_int ?_
    refine ⟨_, _, _, rfl, rfl, rfl, fun z15 => ?_⟩
    refine pak_nil ?_
    refine ⟨z15, _, rfl, (show List.Nodup ([] : List Nat) by decide), rfl, fun b16 => ?_⟩
    refine ⟨_, _, _, rfl, rfl, rfl, fun z17 => ?_⟩
    refine pek_has h__law_written_list hr hg body_passes ?_
    refine pak_cons ?_
    refine pek_va 2 ?_
    refine pak_nil ?_
    refine ⟨(.list l9), _, rfl, (show List.Nodup ([] : List Nat) by decide), rfl, fun b18 => ?_⟩
    refine ⟨_, _, _, rfl, rfl, rfl, fun z19 => ?_⟩
    refine ⟨_, rfl, ?_⟩
    refine psk_cons (ps1_ret ?_)
    refine pek_bin bin_add ?_
    refine pek_bin bin_add ?_
    refine pek_va 3 ?_
    refine pek_lst ?_
    refine pak_cons ?_
    refine pek_blt blt_len B.len ?_
    refine pak_cons ?_
    refine pek_ix ?_
    refine pek_va 0 ?_
    refine pek_int ?_
    refine ⟨_, _, _, rfl, rfl, rfl, fun z20 => ?_⟩
    refine pak_nil ?_
    refine ⟨_, _, rfl, rfl, fun z21 => ?_⟩
    refine pak_nil ?_
    refine ⟨_, rfl, Nat.le_of_ble_eq_true rfl, ?_⟩
    refine ⟨_, _, _, rfl, rfl, rfl, fun z22 => ?_⟩
    refine pek_list B.list ?_
    refine pak_cons ?_
    refine pek_ix ?_
    refine pek_va 0 ?_
    refine pek_int ?_
    refine ⟨_, _, _, rfl, rfl, rfl, fun z23 => ?_⟩
    refine pak_nil ?_
    refine ⟨_, _, rfl, rfl, fun z24 => ?_⟩
    refine ⟨_, _, _, rfl, rfl, rfl, fun z25 => ?_⟩
    refine ⟨_, rfl, ?_⟩
    exact rt_d rfl
def b1__law_written_argument (q__law_written_argument : D → R (D)) (y30 : D) (c29 : Unit) : R (D × Unit) :=
  R.opt (ixD y30 (.int 0)) fun z33 =>
  R.bind (m__law_written_name z33) fun b34 =>
  R.opt (ixD y30 (.int 1)) fun z35 =>
  R.bind (q__law_written_argument z35) fun b36 =>
  R.opt (addD b34 b36) fun z37 =>
  .ok (z37, ())
def g__law_written_argument (q__law_written_argument : D → R (D)) (a : D) : R (D) :=
  R.opt (ixD a (.int 0)) fun z1 =>
  R.bind (R.opt (ixD z1 (.int 0)) fun z3 =>
  R.ite (eqD z3 (.str "invert")) (
  R.opt (ixD z1 (.int 1)) fun z4 =>
  .ok (.nx (.list [(.int 4), z4]))) (
  R.bind (R.opt (ixD z1 (.int 0)) fun z6 =>
  R.ite (eqD z6 (.str "done")) (
  R.opt (ixD z1 (.int 1)) fun z7 =>
  R.opt (ixD z1 (.int 2)) fun z8 =>
  R.bind (m__law_written_terms z8) fun b9 =>
  R.opt (addD (.list [(.int 1), z7]) b9) fun z10 =>
  .ok (.nx z10)) (
  R.opt (ixD z1 (.int 0)) fun z11 =>
  R.opt (eqD z11 (.str "apply")) fun z12 =>
  R.opt (intD [(.bool z12)]) fun z13 =>
  R.opt (addD (.int 2) z13) fun z14 =>
  R.opt (ixD z1 (.int 1)) fun z15 =>
  R.bind (m__law_written_name z15) fun b16 =>
  R.opt (addD (.list [z14]) b16) fun z17 =>
  R.opt (ixD z1 (.int 2)) fun z18 =>
  R.bind (m__law_written_terms z18) fun b19 =>
  R.opt (addD z17 b19) fun z20 =>
  R.opt (ixD z1 (.int 3)) fun z21 =>
  R.opt (lenD [z21]) fun z22 =>
  R.opt (addD z20 (.list [z22])) fun z23 =>
  R.opt (ixD z1 (.int 3)) fun z24 =>
  R.opt (listD z24) fun z25 =>
  R.opt (addD z23 (.list z25)) fun z26 =>
  .ok (.nx z26))) (nxK fun (c5 : D) =>
  .ok (.nx c5)))) (nxK fun (c2 : D) =>
  R.opt (ixD a (.int 1)) fun z27 =>
  R.opt (seqD z27) fun l28 =>
  R.bind2 (lcL (b1__law_written_argument q__law_written_argument) l28 () []) fun l38 c39 =>
  R.bind (m__law_written_list (.list l38)) fun b40 =>
  R.opt (addD c2 b40) fun z41 =>
  .ok z41)
theorem cov__law_written_argument : ∀ (a : D) (b : D) (j : Nat) (o : Ob), (ea__law_written_argument a)[j]? = some (.w o) → ∃ o', (j, o') ∈ (erD b).2 := by
  intro a b j o h
  rcases j with _ | j
  · cases h
  · cases h
theorem hg__law_written_argument {k : Nat} (hk : 7 ≤ k) (hD : DefAt K mg "_law_written_argument" s__law_written_argument P__law_written_argument) (B : Bl K w mg) {q__law_written_argument : D → R (D)} (h__law_written_terms : Has P w K mg base k "_law_written_terms" P__law_written_terms ea__law_written_terms erD m__law_written_terms) (h__law_written_name : Has P w K mg base k "_law_written_name" P__law_written_name ea__law_written_name erD m__law_written_name) (h__law_written_argument : Has P w K mg base k "_law_written_argument" P__law_written_argument ea__law_written_argument erD q__law_written_argument) (h__law_written_list : Has P w K mg base k "_law_written_list" P__law_written_list ea__law_written_list erD m__law_written_list) : Has P w K mg base (k + 1) "_law_written_argument" P__law_written_argument ea__law_written_argument erD (g__law_written_argument q__law_written_argument) := by
  refine Has.mk' (N := N__law_written_argument) hD ⟨rfl, rfl, rfl, by decide +kernel, rfl, by decide +kernel, by decide +kernel⟩ (fun _ => rfl) (cov__law_written_argument) fun f cd A outer s H E W F a hr hg => ?main
  case main =>
    have nd : N__law_written_argument.Nodup := by decide +kernel
    have hu := room_eq hr hk
    refine psk_cons ?_
    refine ps1_set 1 ?_ nd
    refine pek_ix ?_
    refine pek_va 0 ?_
    refine pek_int ?_
    refine ⟨_, _, _, rfl, rfl, rfl, fun z1 => ?_⟩
    refine ⟨_, rfl, ?_⟩
    refine psk_cons ?_
    refine ps1_joinK (fun (c2 : D) => [.va a, .va z1, .va c2, .no, .no]) rfl ?_ (fun c2 => ?_)
    · refine ps1_if ?_
      refine ptk_cmp (cmp_eq hu) ?_
      refine pek_ix ?_
      refine pek_va 1 ?_
      refine pek_int ?_
      refine ⟨_, _, _, rfl, rfl, rfl, fun z3 => ?_⟩
      refine pek_str ?_
      refine AfterC.ite rfl rfl rfl ?_ ?_
      · refine psk_cons ?_
        refine ps1_set 2 ?_ nd
        refine pek_frz ?_
        refine pek_lst ?_
        refine pak_cons ?_
        refine pek_int ?_
        refine pak_cons ?_
        refine pek_ix ?_
        refine pek_va 1 ?_
        refine pek_int ?_
        refine ⟨_, _, _, rfl, rfl, rfl, fun z4 => ?_⟩
        refine pak_nil ?_
        refine ⟨_, rfl, Nat.le_of_ble_eq_true rfl, ?_⟩
        refine ⟨_, rfl, ?_⟩
        refine ⟨_, rfl, ?_⟩
        refine psk_nil ?_
        exact ⟨(.list [(.int 4), z4]), (.keep (.keep (.keep (.keep (.keep .nil))))), rfl⟩
      · refine psk_cons ?_
        refine ps1_joinK (fun (c5 : D) => [.va a, .va z1, .va c5, .no, .no]) rfl ?_ (fun c5 => ?_)
        · refine ps1_if ?_
          refine ptk_cmp (cmp_eq hu) ?_
          refine pek_ix ?_
          refine pek_va 1 ?_
          refine pek_int ?_
          refine ⟨_, _, _, rfl, rfl, rfl, fun z6 => ?_⟩
          refine pek_str ?_
          refine AfterC.ite rfl rfl rfl ?_ ?_
          · refine psk_cons ?_
            refine ps1_set 2 ?_ nd
            refine pek_bin bin_add ?_
            refine pek_lst ?_
            refine pak_cons ?_
            refine pek_int ?_
            refine pak_cons ?_
            refine pek_ix ?_
            refine pek_va 1 ?_
            refine pek_int ?_
            refine ⟨_, _, _, rfl, rfl, rfl, fun z7 => ?_⟩
            refine pak_nil ?_
            refine ⟨_, rfl, Nat.le_of_ble_eq_true rfl, ?_⟩
            refine pek_has h__law_written_terms hr hg body_passes ?_
            refine pak_cons ?_
            refine pek_ix ?_
            refine pek_va 1 ?_
            refine pek_int ?_
            refine ⟨_, _, _, rfl, rfl, rfl, fun z8 => ?_⟩
            refine pak_nil ?_
            refine ⟨z8, _, rfl, (show List.Nodup ([] : List Nat) by decide), rfl, fun b9 => ?_⟩
            refine ⟨_, _, _, rfl, rfl, rfl, fun z10 => ?_⟩
            refine ⟨_, rfl, ?_⟩
            refine psk_nil ?_
            exact ⟨z10, (.keep (.keep (.keep (.keep (.keep .nil))))), rfl⟩
          · refine psk_cons ?_
            refine ps1_set 2 ?_ nd
            refine pek_bin bin_add ?_
            refine pek_bin bin_add ?_
            refine pek_lst ?_
            refine pak_cons ?_
            refine pek_bin bin_add ?_
            refine pek_int ?_
            refine pek_ty blt_int B.int ?_
            refine pak_cons ?_
            refine pek_cmp (cmp_eq hu) ?_
            refine pek_ix ?_
            refine pek_va 1 ?_
            refine pek_int ?_
            refine ⟨_, _, _, rfl, rfl, rfl, fun z11 => ?_⟩
            refine pek_str ?_
            refine AfterC.all rfl rfl rfl fun z12 => ?_
            refine pak_nil ?_
            refine ⟨_, _, rfl, rfl, fun z13 => ?_⟩
            refine ⟨_, _, _, rfl, rfl, rfl, fun z14 => ?_⟩
            refine pak_nil ?_
            refine ⟨_, rfl, Nat.le_of_ble_eq_true rfl, ?_⟩
            refine pek_has h__law_written_name hr hg body_passes ?_
            refine pak_cons ?_
            refine pek_ix ?_
            refine pek_va 1 ?_
            refine pek_int ?_
            refine ⟨_, _, _, rfl, rfl, rfl, fun z15 => ?_⟩
            refine pak_nil ?_
            refine ⟨z15, _, rfl, (show List.Nodup ([] : List Nat) by decide), rfl, fun b16 => ?_⟩
            refine ⟨_, _, _, rfl, rfl, rfl, fun z17 => ?_⟩
            refine pek_has h__law_written_terms hr hg body_passes ?_
            refine pak_cons ?_
            refine pek_ix ?_
            refine pek_va 1 ?_
            refine pek_int ?_
            refine ⟨_, _, _, rfl, rfl, rfl, fun z18 => ?_⟩
            refine pak_nil ?_
            refine ⟨z18, _, rfl, (show List.Nodup ([] : List Nat) by decide), rfl, fun b19 => ?_⟩
            refine ⟨_, _, _, rfl, rfl, rfl, fun z20 => ?_⟩
            refine ⟨_, rfl, ?_⟩
            refine psk_cons ?_
            refine ps1_set 2 ?_ nd
            refine pek_bin bin_add ?_
            refine pek_bin bin_add ?_
            refine pek_va 2 ?_
            refine pek_lst ?_
            refine pak_cons ?_
            refine pek_blt blt_len B.len ?_
            refine pak_cons ?_
            refine pek_ix ?_
            refine pek_va 1 ?_
            refine pek_int ?_
            refine ⟨_, _, _, rfl, rfl, rfl, fun z21 => ?_⟩
            refine pak_nil ?_
            refine ⟨_, _, rfl, rfl, fun z22 => ?_⟩
            refine pak_nil ?_
            refine ⟨_, rfl, Nat.le_of_ble_eq_true rfl, ?_⟩
            refine ⟨_, _, _, rfl, rfl, rfl, fun z23 => ?_⟩
            refine pek_list B.list ?_
            refine pak_cons ?_
            refine pek_ix ?_
            refine pek_va 1 ?_
            refine pek_int ?_
            refine ⟨_, _, _, rfl, rfl, rfl, fun z24 => ?_⟩
            refine pak_nil ?_
            refine ⟨_, _, rfl, rfl, fun z25 => ?_⟩
            refine ⟨_, _, _, rfl, rfl, rfl, fun z26 => ?_⟩
            refine ⟨_, rfl, ?_⟩
            refine psk_nil ?_
            exact ⟨z26, (.keep (.keep (.keep (.keep (.keep .nil))))), rfl⟩
        refine psk_nil ?_
        exact ⟨c5, (.keep (.keep (.keep (.keep (.keep .nil))))), rfl⟩
    refine psk_cons ?_
    refine ps1_setLcK 3 [("_law_part", 4)] (fun (c29 : Unit) => [.va a, .va z1, .va c2, .no, .no]) (b1__law_written_argument q__law_written_argument) ?_ ?_ (by intro c j hj; simp at hj; subst hj; rfl) nd rfl (show BlkOk N__law_written_argument (defScope s__law_written_argument) _ _ from ⟨rfl, by decide +kernel, by decide +kernel, by decide +kernel, by decide +kernel⟩) (by rfl)
    rotate_left
    · intro s' H' Ca cl fp y30 c29
      refine pgk_name 4 ?_ nd
      intro s2 H2 Ca2 cl2 fp2
      refine pek_bin bin_add ?_
      refine pek_has h__law_written_name hr hg blk_passes ?_
      refine pak_cons ?_
      refine pek_ix ?_
      refine pek_va 4 ?_
      refine pek_int ?_
      refine ⟨_, _, _, rfl, rfl, rfl, fun z33 => ?_⟩
      refine pak_nil ?_
      refine ⟨z33, _, rfl, (show List.Nodup ([] : List Nat) by decide), rfl, fun b34 => ?_⟩
      refine pek_has h__law_written_argument hr hg blk_passes ?_
      refine pak_cons ?_
      refine pek_ix ?_
      refine pek_va 4 ?_
      refine pek_int ?_
      refine ⟨_, _, _, rfl, rfl, rfl, fun z35 => ?_⟩
      refine pak_nil ?_
      refine ⟨z35, _, rfl, (show List.Nodup ([] : List Nat) by decide), rfl, fun b36 => ?_⟩
      refine ⟨_, _, _, rfl, rfl, rfl, fun z37 => ?_⟩
      exact ⟨_, (), rfl, (.keep (.keep (.keep (.keep (.drop .nil))))), rfl⟩
    refine pik_seq ?_
    refine pek_ix ?_
    refine pek_va 0 ?_
    refine pek_int ?_
    refine ⟨_, _, _, rfl, rfl, rfl, fun z27 => ?_⟩
    refine ⟨_, _, rfl, rfl, fun l28 => ?_⟩
    refine ⟨(), _, (.keep (.keep (.keep (.keep (.keep .nil))))), rfl, fun l38 c39 => ?_⟩
    refine psk_fz 3 ?_
    refine psk_cons (ps1_ret ?_)
    refine pek_bin bin_add ?_
    refine pek_va 2 ?_
    refine pek_has h__law_written_list hr hg body_passes ?_
    refine pak_cons ?_
    refine pek_va 3 ?_
    refine pak_nil ?_
    refine ⟨(.list l38), _, rfl, (show List.Nodup ([] : List Nat) by decide), rfl, fun b40 => ?_⟩
    refine ⟨_, _, _, rfl, rfl, rfl, fun z41 => ?_⟩
    refine ⟨_, rfl, ?_⟩
    exact rt_d rfl
def m__law_written_argument : Nat → D → R (D)
  | 0 => fun _ => .stuck
  | n + 1 => g__law_written_argument (m__law_written_argument n)
def b1__law_written  (y7 : D) (c6 : Unit) : R (D × Unit) :=
  R.bind (m__law_written_name y7) fun b10 =>
  .ok (b10, ())
def b2__law_written  (y18 : D) (c17 : List D) : R (Ct (List D)) :=
  R.opt (ixD y18 (.int 0)) fun z19 =>
  R.bind (m__law_written_name z19) fun b20 =>
  R.opt (ixD y18 (.int 1)) fun z21 =>
  R.bind (m__law_written_terms z21) fun b22 =>
  R.opt (addD b20 b22) fun z23 =>
  R.opt (ixD y18 (.int 2)) fun z24 =>
  R.bind ((m__law_written_term 24) z24) fun b25 =>
  R.opt (addD z23 b25) fun z26 =>
  R.opt (apD c17 z26) fun z27 =>
  .ok (.nx z27)
def b3__law_written  (y38 : D) (c37 : Unit) : R (D × Unit) :=
  R.bind (m__law_written_claim y38) fun b41 =>
  .ok (b41, ())
def b4__law_written  (y32 : D) (c31 : List D) : R (Ct (List D)) :=
  R.opt (ixD y32 (.int 0)) fun z33 =>
  R.opt (intD [z33]) fun z34 =>
  R.opt (ixD y32 (.int 1)) fun z35 =>
  R.opt (seqD z35) fun l36 =>
  R.bind2 (lcL b3__law_written l36 () []) fun l42 c43 =>
  R.bind (m__law_written_list (.list l42)) fun b44 =>
  R.opt (addD (.list [z34]) b44) fun z45 =>
  R.opt (apD c31 z45) fun z46 =>
  .ok (.nx z46)
def b5__law_written  (y51 : D) (c50 : List D) : R (Ct (List D)) :=
  R.bind (R.opt (ixD y51 (.int 1)) fun z53 =>
  R.ite (some (isNoneD z53)) (
  .ok (.nx (.list [(.int 0)]))) (
  R.opt (ixD y51 (.int 1)) fun z54 =>
  R.bind (m__law_written_name z54) fun b55 =>
  R.opt (addD (.list [(.int 1)]) b55) fun z56 =>
  .ok (.nx z56))) (nxK fun (c52 : D) =>
  R.opt (ixD y51 (.int 0)) fun z57 =>
  R.bind (m__law_written_name z57) fun b58 =>
  R.opt (addD b58 c52) fun z59 =>
  R.opt (ixD y51 (.int 2)) fun z60 =>
  R.bind ((m__law_written_argument 64) z60) fun b61 =>
  R.opt (addD z59 b61) fun z62 =>
  R.opt (apD c50 z62) fun z63 =>
  .ok (.nx z63))
def m__law_written (a : D) : R (D) :=
  R.opt (ixD a (.int 0)) fun z1 =>
  R.bind (m__law_written_name z1) fun b2 =>
  R.opt (addD (.list [(.int 79), (.int 82), (.int 77), (.int 49)]) b2) fun z3 =>
  R.opt (ixD a (.int 1)) fun z4 =>
  R.opt (seqD z4) fun l5 =>
  R.bind2 (lcL b1__law_written l5 () []) fun l11 c12 =>
  R.bind (m__law_written_list (.list l11)) fun b13 =>
  R.opt (addD z3 b13) fun z14 =>
  R.opt (ixD a (.int 2)) fun z15 =>
  R.opt (seqD z15) fun l16 =>
  R.bind (forL b2__law_written l16 []) (nxK fun (c28 : List D) =>
  R.opt (ixD a (.int 3)) fun z29 =>
  R.opt (seqD z29) fun l30 =>
  R.bind (forL b4__law_written l30 []) (nxK fun (c47 : List D) =>
  R.opt (ixD a (.int 4)) fun z48 =>
  R.opt (seqD z48) fun l49 =>
  R.bind (forL b5__law_written l49 []) (nxK fun (c64 : List D) =>
  R.bind (m__law_written_list (.list c28)) fun b65 =>
  R.opt (addD z14 b65) fun z66 =>
  R.bind (m__law_written_list (.list c47)) fun b67 =>
  R.opt (addD z66 b67) fun z68 =>
  R.bind (m__law_written_list (.list c64)) fun b69 =>
  R.opt (addD z68 b69) fun z70 =>
  .ok z70)))
theorem cov__law_written : ∀ (a : D) (b : D) (j : Nat) (o : Ob), (ea__law_written a)[j]? = some (.w o) → ∃ o', (j, o') ∈ (erD b).2 := by
  intro a b j o h
  rcases j with _ | j
  · cases h
  · cases h
theorem h__law_written {k : Nat} (hD : DefAt K mg "_law_written" s__law_written P__law_written) (B : Bl K w mg) (h__law_written_name : Has P w K mg base k "_law_written_name" P__law_written_name ea__law_written_name erD m__law_written_name) (h__law_written_list : Has P w K mg base k "_law_written_list" P__law_written_list ea__law_written_list erD m__law_written_list) (h__law_written_terms : Has P w K mg base k "_law_written_terms" P__law_written_terms ea__law_written_terms erD m__law_written_terms) (h__law_written_term : Has P w K mg base k "_law_written_term" P__law_written_term ea__law_written_term erD (m__law_written_term 24)) (h__law_written_claim : Has P w K mg base k "_law_written_claim" P__law_written_claim ea__law_written_claim erD m__law_written_claim) (h__law_written_argument : Has P w K mg base k "_law_written_argument" P__law_written_argument ea__law_written_argument erD (m__law_written_argument 64)) : Has P w K mg base (k + 1) "_law_written" P__law_written ea__law_written erD m__law_written := by
  refine Has.mk' (N := N__law_written) hD ⟨rfl, rfl, rfl, by decide +kernel, rfl, by decide +kernel, by decide +kernel⟩ (fun _ => rfl) (cov__law_written) fun f cd A outer s H E W F a hr hg => ?main
  case main =>
    have nd : N__law_written.Nodup := by decide +kernel
    refine psk_cons ?_
    refine ps1_set 1 ?_ nd
    refine pek_bin bin_add ?_
    refine pek_lst ?_
    refine pak_cons ?_
    refine pek_int ?_
    refine pak_cons ?_
    refine pek_int ?_
    refine pak_cons ?_
    refine pek_int ?_
    refine pak_cons ?_
    refine pek_int ?_
    refine pak_nil ?_
    refine ⟨_, rfl, Nat.le_of_ble_eq_true rfl, ?_⟩
    refine pek_has h__law_written_name hr hg body_passes ?_
    refine pak_cons ?_
    refine pek_ix ?_
    refine pek_va 0 ?_
    refine pek_int ?_
    refine ⟨_, _, _, rfl, rfl, rfl, fun z1 => ?_⟩
    refine pak_nil ?_
    refine ⟨z1, _, rfl, (show List.Nodup ([] : List Nat) by decide), rfl, fun b2 => ?_⟩
    refine ⟨_, _, _, rfl, rfl, rfl, fun z3 => ?_⟩
    refine ⟨_, rfl, ?_⟩
    refine psk_cons ?_
    refine ps1_set 1 ?_ nd
    refine pek_bin bin_add ?_
    refine pek_va 1 ?_
    refine pek_has h__law_written_list hr hg body_passes ?_
    refine pak_cons ?_
    refine pek_frz ?_
    refine pek_lcK [("_law_name", 9)] (fun (c6 : Unit) => [.va a, .va z3, .no, .no, .no, .no, .no, .no, .no, .no, .no]) b1__law_written ?_ ?_ (by intro c j hj; simp at hj; subst hj; rfl) nd rfl (show BlkOk N__law_written (defScope s__law_written) _ _ from ⟨rfl, by decide +kernel, by decide +kernel, by decide +kernel, by decide +kernel⟩)
    rotate_left
    · intro s' H' Ca cl fp y7 c6
      refine pgk_name 9 ?_ nd
      intro s2 H2 Ca2 cl2 fp2
      refine pek_has h__law_written_name hr hg blk_passes ?_
      refine pak_cons ?_
      refine pek_va 9 ?_
      refine pak_nil ?_
      refine ⟨y7, _, rfl, (show List.Nodup ([] : List Nat) by decide), rfl, fun b10 => ?_⟩
      exact ⟨_, (), rfl, (.keep (.keep (.keep (.keep (.keep (.keep (.keep (.keep (.keep (.drop (.keep .nil))))))))))), rfl⟩
    refine pik_seq ?_
    refine pek_ix ?_
    refine pek_va 0 ?_
    refine pek_int ?_
    refine ⟨_, _, _, rfl, rfl, rfl, fun z4 => ?_⟩
    refine ⟨_, _, rfl, rfl, fun l5 => ?_⟩
    refine ⟨(), _, (.keep (.keep (.keep (.keep (.keep (.keep (.keep (.keep (.keep (.keep (.keep .nil))))))))))), rfl, fun l11 c12 => ?_⟩
    refine ⟨_, rfl, ?_⟩
    refine pak_nil ?_
    refine ⟨(.list l11), _, rfl, (show List.Nodup ([] : List Nat) by decide), rfl, fun b13 => ?_⟩
    refine ⟨_, _, _, rfl, rfl, rfl, fun z14 => ?_⟩
    refine ⟨_, rfl, ?_⟩
    refine psk_cons ?_
    refine ps1_setO 2 ?_ nd
    refine pek_lst ?_
    refine pak_nil ?_
    refine ⟨_, rfl, Nat.le_of_ble_eq_true rfl, ?_⟩
    refine ⟨_, rfl, ?_⟩
    refine psk_cons ?_
    refine ps1_forK [3] (fun (c17 : List D) => [.va a, .va z14, .ow none (.ls c17), .no, .no, .no, .no, .no, .no, .no, .no]) b2__law_written ?_ ?_ body_own rfl
    rotate_left
    · intro y18 c17
      refine pgk_name 3 ?_ nd
      refine psk_cons ?_
      refine ps1_append 2 ⟨_, _, rfl, ?_⟩
      refine pek_bin bin_add ?_
      refine pek_bin bin_add ?_
      refine pek_has h__law_written_name hr hg body_passes ?_
      refine pak_cons ?_
      refine pek_ix ?_
      refine pek_va 3 ?_
      refine pek_int ?_
      refine ⟨_, _, _, rfl, rfl, rfl, fun z19 => ?_⟩
      refine pak_nil ?_
      refine ⟨z19, _, rfl, (show List.Nodup ([] : List Nat) by decide), rfl, fun b20 => ?_⟩
      refine pek_has h__law_written_terms hr hg body_passes ?_
      refine pak_cons ?_
      refine pek_ix ?_
      refine pek_va 3 ?_
      refine pek_int ?_
      refine ⟨_, _, _, rfl, rfl, rfl, fun z21 => ?_⟩
      refine pak_nil ?_
      refine ⟨z21, _, rfl, (show List.Nodup ([] : List Nat) by decide), rfl, fun b22 => ?_⟩
      refine ⟨_, _, _, rfl, rfl, rfl, fun z23 => ?_⟩
      refine pek_has h__law_written_term hr hg body_passes ?_
      refine pak_cons ?_
      refine pek_ix ?_
      refine pek_va 3 ?_
      refine pek_int ?_
      refine ⟨_, _, _, rfl, rfl, rfl, fun z24 => ?_⟩
      refine pak_nil ?_
      refine ⟨z24, _, rfl, (show List.Nodup ([] : List Nat) by decide), rfl, fun b25 => ?_⟩
      refine ⟨_, _, _, rfl, rfl, rfl, fun z26 => ?_⟩
      refine ⟨_, _, _, _, rfl, rfl, rfl, fun z27 => ?_⟩
      refine psk_nil ?_
      exact ⟨z27, (.keep (.keep (.keep (.drop (.keep (.keep (.keep (.keep (.keep (.keep (.keep .nil))))))))))), rfl⟩
    refine pik_seq ?_
    refine pek_ix ?_
    refine pek_va 0 ?_
    refine pek_int ?_
    refine ⟨_, _, _, rfl, rfl, rfl, fun z15 => ?_⟩
    refine ⟨_, _, rfl, rfl, fun l16 => ?_⟩
    refine ⟨[], _, (.keep (.keep (.keep (.keep (.keep (.keep (.keep (.keep (.keep (.keep (.keep .nil))))))))))), rfl, fun c28 => ?_⟩
    refine psk_cons ?_
    refine ps1_setO 4 ?_ nd
    refine pek_lst ?_
    refine pak_nil ?_
    refine ⟨_, rfl, Nat.le_of_ble_eq_true rfl, ?_⟩
    refine ⟨_, rfl, ?_⟩
    refine psk_cons ?_
    refine ps1_forK [5] (fun (c31 : List D) => [.va a, .va z14, .ow none (.ls c28), .no, .ow none (.ls c31), .no, .no, .no, .no, .no, .no]) b4__law_written ?_ ?_ body_own rfl
    rotate_left
    · intro y32 c31
      refine pgk_name 5 ?_ nd
      refine psk_cons ?_
      refine ps1_append 4 ⟨_, _, rfl, ?_⟩
      refine pek_bin bin_add ?_
      refine pek_lst ?_
      refine pak_cons ?_
      refine pek_ty blt_int B.int ?_
      refine pak_cons ?_
      refine pek_ix ?_
      refine pek_va 5 ?_
      refine pek_int ?_
      refine ⟨_, _, _, rfl, rfl, rfl, fun z33 => ?_⟩
      refine pak_nil ?_
      refine ⟨_, _, rfl, rfl, fun z34 => ?_⟩
      refine pak_nil ?_
      refine ⟨_, rfl, Nat.le_of_ble_eq_true rfl, ?_⟩
      refine pek_has h__law_written_list hr hg body_passes ?_
      refine pak_cons ?_
      refine pek_frz ?_
      refine pek_lcK [("_law_claim", 10)] (fun (c37 : Unit) => [.va a, .va z14, .ow none (.ls c28), .no, .ow none (.ls c31), .va y32, .no, .no, .no, .no, .no]) b3__law_written ?_ ?_ (by intro c j hj; simp at hj; subst hj; rfl) nd rfl (show BlkOk N__law_written (defScope s__law_written) _ _ from ⟨rfl, by decide +kernel, by decide +kernel, by decide +kernel, by decide +kernel⟩)
      rotate_left
      · intro s' H' Ca cl fp y38 c37
        refine pgk_name 10 ?_ nd
        intro s2 H2 Ca2 cl2 fp2
        refine pek_has h__law_written_claim hr hg blk_passes ?_
        refine pak_cons ?_
        refine pek_va 10 ?_
        refine pak_nil ?_
        refine ⟨y38, _, rfl, (show List.Nodup ([] : List Nat) by decide), rfl, fun b41 => ?_⟩
        exact ⟨_, (), rfl, (.keep (.keep (.keep (.keep (.keep (.keep (.keep (.keep (.keep (.keep (.drop .nil))))))))))), rfl⟩
      refine pik_seq ?_
      refine pek_ix ?_
      refine pek_va 5 ?_
      refine pek_int ?_
      refine ⟨_, _, _, rfl, rfl, rfl, fun z35 => ?_⟩
      refine ⟨_, _, rfl, rfl, fun l36 => ?_⟩
      refine ⟨(), _, (.keep (.keep (.keep (.keep (.keep (.keep (.keep (.keep (.keep (.keep (.keep .nil))))))))))), rfl, fun l42 c43 => ?_⟩
      refine ⟨_, rfl, ?_⟩
      refine pak_nil ?_
      refine ⟨(.list l42), _, rfl, (show List.Nodup ([] : List Nat) by decide), rfl, fun b44 => ?_⟩
      refine ⟨_, _, _, rfl, rfl, rfl, fun z45 => ?_⟩
      refine ⟨_, _, _, _, rfl, rfl, rfl, fun z46 => ?_⟩
      refine psk_nil ?_
      exact ⟨z46, (.keep (.keep (.keep (.keep (.keep (.drop (.keep (.keep (.keep (.keep (.keep .nil))))))))))), rfl⟩
    refine pik_seq ?_
    refine pek_ix ?_
    refine pek_va 0 ?_
    refine pek_int ?_
    refine ⟨_, _, _, rfl, rfl, rfl, fun z29 => ?_⟩
    refine ⟨_, _, rfl, rfl, fun l30 => ?_⟩
    refine ⟨[], _, (.keep (.keep (.keep (.keep (.keep (.keep (.keep (.keep (.keep (.keep (.keep .nil))))))))))), rfl, fun c47 => ?_⟩
    refine psk_cons ?_
    refine ps1_setO 6 ?_ nd
    refine pek_lst ?_
    refine pak_nil ?_
    refine ⟨_, rfl, Nat.le_of_ble_eq_true rfl, ?_⟩
    refine ⟨_, rfl, ?_⟩
    refine psk_cons ?_
    refine ps1_forK [7] (fun (c50 : List D) => [.va a, .va z14, .ow none (.ls c28), .no, .ow none (.ls c47), .no, .ow none (.ls c50), .no, .no, .no, .no]) b5__law_written ?_ ?_ body_own rfl
    rotate_left
    · intro y51 c50
      refine pgk_name 7 ?_ nd
      refine psk_cons ?_
      refine ps1_set 8 ?_ nd
      refine pek_frz ?_
      refine pek_lst ?_
      refine pak_cons ?_
      refine pek_int ?_
      refine pak_nil ?_
      refine ⟨_, rfl, Nat.le_of_ble_eq_true rfl, ?_⟩
      refine ⟨_, rfl, ?_⟩
      refine ⟨_, rfl, ?_⟩
      refine psk_cons ?_
      refine ps1_joinK (fun (c52 : D) => [.va a, .va z14, .ow none (.ls c28), .no, .ow none (.ls c47), .no, .ow none (.ls c50), .va y51, .va c52, .no, .no]) rfl ?_ (fun c52 => ?_)
      · refine ps1_if ?_
        refine ptk_notN ?_
        refine pek_ix ?_
        refine pek_va 7 ?_
        refine pek_int ?_
        refine ⟨_, _, _, rfl, rfl, rfl, fun z53 => ?_⟩
        refine AfterN.ite rfl rfl ?_ ?_
        · refine psk_nil ?_
          exact ⟨(.list [(.int 0)]), (.keep (.keep (.keep (.keep (.keep (.keep (.keep (.keep (.keep (.keep (.keep .nil))))))))))), rfl⟩
        · refine psk_cons ?_
          refine ps1_set 8 ?_ nd
          refine pek_bin bin_add ?_
          refine pek_lst ?_
          refine pak_cons ?_
          refine pek_int ?_
          refine pak_nil ?_
          refine ⟨_, rfl, Nat.le_of_ble_eq_true rfl, ?_⟩
          refine pek_has h__law_written_name hr hg body_passes ?_
          refine pak_cons ?_
          refine pek_ix ?_
          refine pek_va 7 ?_
          refine pek_int ?_
          refine ⟨_, _, _, rfl, rfl, rfl, fun z54 => ?_⟩
          refine pak_nil ?_
          refine ⟨z54, _, rfl, (show List.Nodup ([] : List Nat) by decide), rfl, fun b55 => ?_⟩
          refine ⟨_, _, _, rfl, rfl, rfl, fun z56 => ?_⟩
          refine ⟨_, rfl, ?_⟩
          refine psk_nil ?_
          exact ⟨z56, (.keep (.keep (.keep (.keep (.keep (.keep (.keep (.keep (.keep (.keep (.keep .nil))))))))))), rfl⟩
      refine psk_cons ?_
      refine ps1_append 6 ⟨_, _, rfl, ?_⟩
      refine pek_bin bin_add ?_
      refine pek_bin bin_add ?_
      refine pek_has h__law_written_name hr hg body_passes ?_
      refine pak_cons ?_
      refine pek_ix ?_
      refine pek_va 7 ?_
      refine pek_int ?_
      refine ⟨_, _, _, rfl, rfl, rfl, fun z57 => ?_⟩
      refine pak_nil ?_
      refine ⟨z57, _, rfl, (show List.Nodup ([] : List Nat) by decide), rfl, fun b58 => ?_⟩
      refine pek_va 8 ?_
      refine ⟨_, _, _, rfl, rfl, rfl, fun z59 => ?_⟩
      refine pek_has h__law_written_argument hr hg body_passes ?_
      refine pak_cons ?_
      refine pek_ix ?_
      refine pek_va 7 ?_
      refine pek_int ?_
      refine ⟨_, _, _, rfl, rfl, rfl, fun z60 => ?_⟩
      refine pak_nil ?_
      refine ⟨z60, _, rfl, (show List.Nodup ([] : List Nat) by decide), rfl, fun b61 => ?_⟩
      refine ⟨_, _, _, rfl, rfl, rfl, fun z62 => ?_⟩
      refine ⟨_, _, _, _, rfl, rfl, rfl, fun z63 => ?_⟩
      refine psk_nil ?_
      exact ⟨z63, (.keep (.keep (.keep (.keep (.keep (.keep (.keep (.drop (.drop (.keep (.keep .nil))))))))))), rfl⟩
    refine pik_seq ?_
    refine pek_ix ?_
    refine pek_va 0 ?_
    refine pek_int ?_
    refine ⟨_, _, _, rfl, rfl, rfl, fun z48 => ?_⟩
    refine ⟨_, _, rfl, rfl, fun l49 => ?_⟩
    refine ⟨[], _, (.keep (.keep (.keep (.keep (.keep (.keep (.keep (.keep (.keep (.keep (.keep .nil))))))))))), rfl, fun c64 => ?_⟩
    refine psk_cons (ps1_ret ?_)
    refine pek_bin bin_add ?_
    refine pek_bin bin_add ?_
    refine pek_bin bin_add ?_
    refine pek_va 1 ?_
    refine pek_has h__law_written_list hr hg body_passes ?_
    refine pak_cons ?_
    refine pek_freeze 2 ?_
    refine pak_nil ?_
    refine ⟨(.list c28), _, rfl, (show List.Nodup ([] : List Nat) by decide), rfl, fun b65 => ?_⟩
    refine ⟨_, _, _, rfl, rfl, rfl, fun z66 => ?_⟩
    refine pek_has h__law_written_list hr hg body_passes ?_
    refine pak_cons ?_
    refine pek_freeze 4 ?_
    refine pak_nil ?_
    refine ⟨(.list c47), _, rfl, (show List.Nodup ([] : List Nat) by decide), rfl, fun b67 => ?_⟩
    refine ⟨_, _, _, rfl, rfl, rfl, fun z68 => ?_⟩
    refine pek_has h__law_written_list hr hg body_passes ?_
    refine pak_cons ?_
    refine pek_freeze 6 ?_
    refine pak_nil ?_
    refine ⟨(.list c64), _, rfl, (show List.Nodup ([] : List Nat) by decide), rfl, fun b69 => ?_⟩
    refine ⟨_, _, _, rfl, rfl, rfl, fun z70 => ?_⟩
    refine ⟨_, rfl, ?_⟩
    exact rt_d rfl
def b1__law_any_term (q__law_any_term : List D × D × D → R (D × List D)) (a : List D × D × D) (y14 : D) (c13 : List D) : R (D × List D) :=
  R.opt (subD a.2.2 (.int 1)) fun z17 =>
  R.bind (q__law_any_term (c13, a.2.1, z17)) fun b18 =>
  .ok (b18.1, b18.2)
def g__law_any_term (q__law_any_term : List D × D × D → R (D × List D)) (a : List D × D × D) : R (D × List D) :=
  R.bind (m__law_draw (a.1, (.int 6))) fun b1 =>
  R.ite (ltD b1.1 (.int 2)) (
  R.bind (m__law_draw (b1.2, (.int 4))) fun b2 =>
  R.bind (m__law_draw (b2.2, (.int 65536))) fun b3 =>
  R.bind (m__law_draw (b3.2, (.int 6))) fun b4 =>
  R.opt (ixD (.list [b2.1, (.int 255), (.int 256), (.int 999), (.int 65535), b3.1]) b4.1) fun z5 =>
  .ok (z5, b4.2)) (
  R.opt (lenD [a.2.1]) fun z6 =>
  R.bind (m__law_draw (b1.2, z6)) fun b7 =>
  R.opt (ixD a.2.1 b7.1) fun z8 =>
  R.ite (leD a.2.2 (.int 1)) (
  .ok ((.tuple [z8]), b7.2)) (
  R.bind (m__law_draw (b7.2, (.int 6))) fun b9 =>
  R.opt (ixD (.list [(.int 0), (.int 1), (.int 2), (.int 3), (.int 8), (.int 1)]) b9.1) fun z10 =>
  R.opt2 (rg1 [z10]) fun i11 j12 =>
  R.bind2 (lcL (b1__law_any_term q__law_any_term a) (rngD i11 j12) b9.2 []) fun l19 c20 =>
  R.opt (tupleD [(.list l19)]) fun z21 =>
  R.opt (addD (.tuple [z8]) z21) fun z22 =>
  .ok (z22, c20)))
theorem cov__law_any_term : ∀ (a : List D × D × D) (b : D × List D) (j : Nat) (o : Ob), (ea__law_any_term a)[j]? = some (.w o) → ∃ o', (j, o') ∈ ((erDW 0) b).2 := by
  intro a b j o h
  rcases j with _ | _ | _ | j
  · exact ⟨_, List.Mem.head _⟩
  · cases h
  · cases h
  · cases h
theorem hg__law_any_term {k : Nat} (hD : DefAt K mg "_law_any_term" s__law_any_term P__law_any_term) (B : Bl K w mg) {q__law_any_term : List D × D × D → R (D × List D)} (h__law_draw : Has P w K mg base k "_law_draw" P__law_draw ea__law_draw (erDW 0) m__law_draw) (h__law_any_term : Has P w K mg base k "_law_any_term" P__law_any_term ea__law_any_term (erDW 0) q__law_any_term) : Has P w K mg base (k + 1) "_law_any_term" P__law_any_term ea__law_any_term (erDW 0) (g__law_any_term q__law_any_term) := by
  refine Has.mk' (N := N__law_any_term) hD ⟨rfl, rfl, rfl, by decide +kernel, rfl, by decide +kernel, by decide +kernel⟩ (fun _ => rfl) (cov__law_any_term) fun f cd A outer s H E W F a hr hg => ?main
  case main =>
    have nd : N__law_any_term.Nodup := by decide +kernel
    refine psk_cons ?_
    refine ps1_set 3 ?_ nd
    refine pek_has h__law_draw hr hg body_passes ?_
    refine pak_cons ?_
    refine pek_ow 0 ?_
    refine pak_cons ?_
    refine pek_int ?_
    refine pak_nil ?_
    refine ⟨(a.1, (.int 6)), _, rfl, (show List.Nodup ([0] : List Nat) by decide), rfl, fun b1 => ?_⟩
    refine ⟨_, rfl, ?_⟩
    refine psk_cons ?_
    refine ps1_if ?_
    refine ptk_cmp cmp_lt ?_
    refine pek_va 3 ?_
    refine pek_int ?_
    refine AfterC.ite rfl rfl rfl ?_ ?_
    · refine psk_cons (ps1_ret ?_)
      refine pek_ix ?_
      refine pek_lst ?_
      refine pak_cons ?_
      refine pek_has h__law_draw hr hg body_passes ?_
      refine pak_cons ?_
      refine pek_ow 0 ?_
      refine pak_cons ?_
      refine pek_int ?_
      refine pak_nil ?_
      refine ⟨(b1.2, (.int 4)), _, rfl, (show List.Nodup ([0] : List Nat) by decide), rfl, fun b2 => ?_⟩
      refine pak_cons ?_
      refine pek_int ?_
      refine pak_cons ?_
      refine pek_int ?_
      refine pak_cons ?_
      refine pek_int ?_
      refine pak_cons ?_
      refine pek_int ?_
      refine pak_cons ?_
      refine pek_has h__law_draw hr hg body_passes ?_
      refine pak_cons ?_
      refine pek_ow 0 ?_
      refine pak_cons ?_
      refine pek_int ?_
      refine pak_nil ?_
      refine ⟨(b2.2, (.int 65536)), _, rfl, (show List.Nodup ([0] : List Nat) by decide), rfl, fun b3 => ?_⟩
      refine pak_nil ?_
      refine ⟨_, rfl, Nat.le_of_ble_eq_true rfl, ?_⟩
      refine pek_has h__law_draw hr hg body_passes ?_
      refine pak_cons ?_
      refine pek_ow 0 ?_
      refine pak_cons ?_
      refine pek_int ?_
      refine pak_nil ?_
      refine ⟨(b3.2, (.int 6)), _, rfl, (show List.Nodup ([0] : List Nat) by decide), rfl, fun b4 => ?_⟩
      refine ⟨_, _, _, rfl, rfl, rfl, fun z5 => ?_⟩
      refine ⟨_, rfl, ?_⟩
      exact rt_dw rfl rfl
    · refine psk_nil ?_
      refine psk_cons ?_
      refine ps1_set 4 ?_ nd
      refine pek_ix ?_
      refine pek_va 1 ?_
      refine pek_has h__law_draw hr hg body_passes ?_
      refine pak_cons ?_
      refine pek_ow 0 ?_
      refine pak_cons ?_
      refine pek_blt blt_len B.len ?_
      refine pak_cons ?_
      refine pek_va 1 ?_
      refine pak_nil ?_
      refine ⟨_, _, rfl, rfl, fun z6 => ?_⟩
      refine pak_nil ?_
      refine ⟨(b1.2, z6), _, rfl, (show List.Nodup ([0] : List Nat) by decide), rfl, fun b7 => ?_⟩
      refine ⟨_, _, _, rfl, rfl, rfl, fun z8 => ?_⟩
      refine ⟨_, rfl, ?_⟩
      refine psk_cons ?_
      refine ps1_if ?_
      refine ptk_cmp cmp_le ?_
      refine pek_va 2 ?_
      refine pek_int ?_
      refine AfterC.ite rfl rfl rfl ?_ ?_
      · refine psk_cons (ps1_ret ?_)
        refine pek_tup ?_
        refine pak_cons ?_
        refine pek_va 4 ?_
        refine pak_nil ?_
        refine ⟨_, rfl, Nat.le_of_ble_eq_true rfl, ?_⟩
        refine ⟨_, rfl, ?_⟩
        exact rt_dw rfl rfl
      · refine psk_nil ?_
        refine psk_cons ?_
        refine ps1_set 5 ?_ nd
        refine pek_ix ?_
        refine pek_lst ?_
        refine pak_cons ?_
        refine pek_int ?_
        refine pak_cons ?_
        refine pek_int ?_
        refine pak_cons ?_
        refine pek_int ?_
        refine pak_cons ?_
        refine pek_int ?_
        refine pak_cons ?_
        refine pek_int ?_
        refine pak_cons ?_
        refine pek_int ?_
        refine pak_nil ?_
        refine ⟨_, rfl, Nat.le_of_ble_eq_true rfl, ?_⟩
        refine pek_has h__law_draw hr hg body_passes ?_
        refine pak_cons ?_
        refine pek_ow 0 ?_
        refine pak_cons ?_
        refine pek_int ?_
        refine pak_nil ?_
        refine ⟨(b7.2, (.int 6)), _, rfl, (show List.Nodup ([0] : List Nat) by decide), rfl, fun b9 => ?_⟩
        refine ⟨_, _, _, rfl, rfl, rfl, fun z10 => ?_⟩
        refine ⟨_, rfl, ?_⟩
        refine psk_cons (ps1_ret ?_)
        refine pek_bin bin_add ?_
        refine pek_tup ?_
        refine pak_cons ?_
        refine pek_va 4 ?_
        refine pak_nil ?_
        refine ⟨_, rfl, Nat.le_of_ble_eq_true rfl, ?_⟩
        refine pek_ty blt_tuple B.tuple ?_
        refine pak_cons ?_
        refine pek_lcK [("_law_k", 6)] (fun (c13 : List D) => [.ow (some 0) (.ls c13), .va a.2.1, .va a.2.2, .va b1.1, .va z8, .va z10, .no]) (b1__law_any_term q__law_any_term a) ?_ ?_ (by intro c j hj; simp at hj; subst hj; rfl) nd rfl (show BlkOk N__law_any_term (defScope s__law_any_term) _ _ from ⟨rfl, by decide +kernel, by decide +kernel, by decide +kernel, by decide +kernel⟩)
        rotate_left
        · intro s' H' Ca cl fp y14 c13
          refine pgk_name 6 ?_ nd
          intro s2 H2 Ca2 cl2 fp2
          refine pek_has h__law_any_term hr hg blk_passes ?_
          refine pak_cons ?_
          refine pek_ow 0 ?_
          refine pak_cons ?_
          refine pek_va 1 ?_
          refine pak_cons ?_
          refine pek_bin bin_sub ?_
          refine pek_va 2 ?_
          refine pek_int ?_
          refine ⟨_, _, _, rfl, rfl, rfl, fun z17 => ?_⟩
          refine pak_nil ?_
          refine ⟨(c13, a.2.1, z17), _, rfl, (show List.Nodup ([0] : List Nat) by decide), rfl, fun b18 => ?_⟩
          exact ⟨_, b18.2, rfl, (.keep (.keep (.keep (.keep (.keep (.keep (.drop .nil))))))), rfl⟩
        refine pik_r1 B.range ?_
        refine pak_cons ?_
        refine pek_va 5 ?_
        refine pak_nil ?_
        refine ⟨_, _, rfl, rfl, fun i11 j12 => ?_⟩
        refine ⟨b9.2, _, (.keep (.keep (.keep (.keep (.keep (.keep (.keep .nil))))))), rfl, fun l19 c20 => ?_⟩
        refine pak_nil ?_
        refine ⟨_, _, rfl, rfl, fun z21 => ?_⟩
        refine ⟨_, _, _, rfl, rfl, rfl, fun z22 => ?_⟩
        refine ⟨_, rfl, ?_⟩
        exact rt_dw rfl rfl
def m__law_any_term : Nat → List D × D × D → R (D × List D)
  | 0 => fun _ => .stuck
  | n + 1 => g__law_any_term (m__law_any_term n)
def b1__law_any_atom (a : List D × D × D) (y14 : D) (c13 : List D) : R (D × List D) :=
  R.opt (subD a.2.2 (.int 1)) fun z17 =>
  R.bind ((m__law_any_term 8) (c13, a.2.1, z17)) fun b18 =>
  .ok (b18.1, b18.2)
def m__law_any_atom (a : List D × D × D) : R (D × List D) :=
  R.bind (m__law_draw (a.1, (.int 5))) fun b1 =>
  R.ite (eqD b1.1 (.int 0)) (
  R.opt (subD a.2.2 (.int 1)) fun z2 =>
  R.bind ((m__law_any_term 8) (b1.2, a.2.1, z2)) fun b3 =>
  R.opt (subD a.2.2 (.int 1)) fun z4 =>
  R.bind ((m__law_any_term 8) (b3.2, a.2.1, z4)) fun b5 =>
  .ok ((.tuple [(.str "="), b3.1, b5.1]), b5.2)) (
  R.bind (m__law_draw (b1.2, (.int 4))) fun b6 =>
  R.opt (ixD (.list [(.int 0), (.int 1), (.int 2), (.int 3)]) b6.1) fun z7 =>
  R.opt (lenD [a.2.1]) fun z8 =>
  R.bind (m__law_draw (b6.2, z8)) fun b9 =>
  R.opt (ixD a.2.1 b9.1) fun z10 =>
  R.opt2 (rg1 [z7]) fun i11 j12 =>
  R.bind2 (lcL (b1__law_any_atom a) (rngD i11 j12) b9.2 []) fun l19 c20 =>
  R.opt (tupleD [(.list l19)]) fun z21 =>
  R.opt (addD (.tuple [z10]) z21) fun z22 =>
  .ok (z22, c20))
theorem cov__law_any_atom : ∀ (a : List D × D × D) (b : D × List D) (j : Nat) (o : Ob), (ea__law_any_atom a)[j]? = some (.w o) → ∃ o', (j, o') ∈ ((erDW 0) b).2 := by
  intro a b j o h
  rcases j with _ | _ | _ | j
  · exact ⟨_, List.Mem.head _⟩
  · cases h
  · cases h
  · cases h
theorem h__law_any_atom {k : Nat} (hk : 7 ≤ k) (hD : DefAt K mg "_law_any_atom" s__law_any_atom P__law_any_atom) (B : Bl K w mg) (h__law_draw : Has P w K mg base k "_law_draw" P__law_draw ea__law_draw (erDW 0) m__law_draw) (h__law_any_term : Has P w K mg base k "_law_any_term" P__law_any_term ea__law_any_term (erDW 0) (m__law_any_term 8)) : Has P w K mg base (k + 1) "_law_any_atom" P__law_any_atom ea__law_any_atom (erDW 0) m__law_any_atom := by
  refine Has.mk' (N := N__law_any_atom) hD ⟨rfl, rfl, rfl, by decide +kernel, rfl, by decide +kernel, by decide +kernel⟩ (fun _ => rfl) (cov__law_any_atom) fun f cd A outer s H E W F a hr hg => ?main
  case main =>
    have nd : N__law_any_atom.Nodup := by decide +kernel
    have hu := room_eq hr hk
    refine psk_cons ?_
    refine ps1_if ?_
    refine ptk_cmp (cmp_eq hu) ?_
    refine pek_has h__law_draw hr hg body_passes ?_
    refine pak_cons ?_
    refine pek_ow 0 ?_
    refine pak_cons ?_
    refine pek_int ?_
    refine pak_nil ?_
    refine ⟨(a.1, (.int 5)), _, rfl, (show List.Nodup ([0] : List Nat) by decide), rfl, fun b1 => ?_⟩
    refine pek_int ?_
    refine AfterC.ite rfl rfl rfl ?_ ?_
    · refine psk_cons (ps1_ret ?_)
      refine pek_tup ?_
      refine pak_cons ?_
      refine pek_str ?_
      refine pak_cons ?_
      refine pek_has h__law_any_term hr hg body_passes ?_
      refine pak_cons ?_
      refine pek_ow 0 ?_
      refine pak_cons ?_
      refine pek_va 1 ?_
      refine pak_cons ?_
      refine pek_bin bin_sub ?_
      refine pek_va 2 ?_
      refine pek_int ?_
      refine ⟨_, _, _, rfl, rfl, rfl, fun z2 => ?_⟩
      refine pak_nil ?_
      refine ⟨(b1.2, a.2.1, z2), _, rfl, (show List.Nodup ([0] : List Nat) by decide), rfl, fun b3 => ?_⟩
      refine pak_cons ?_
      refine pek_has h__law_any_term hr hg body_passes ?_
      refine pak_cons ?_
      refine pek_ow 0 ?_
      refine pak_cons ?_
      refine pek_va 1 ?_
      refine pak_cons ?_
      refine pek_bin bin_sub ?_
      refine pek_va 2 ?_
      refine pek_int ?_
      refine ⟨_, _, _, rfl, rfl, rfl, fun z4 => ?_⟩
      refine pak_nil ?_
      refine ⟨(b3.2, a.2.1, z4), _, rfl, (show List.Nodup ([0] : List Nat) by decide), rfl, fun b5 => ?_⟩
      refine pak_nil ?_
      refine ⟨_, rfl, Nat.le_of_ble_eq_true rfl, ?_⟩
      refine ⟨_, rfl, ?_⟩
      exact rt_dw rfl rfl
    · refine psk_nil ?_
      refine psk_cons ?_
      refine ps1_set 3 ?_ nd
      refine pek_ix ?_
      refine pek_lst ?_
      refine pak_cons ?_
      refine pek_int ?_
      refine pak_cons ?_
      refine pek_int ?_
      refine pak_cons ?_
      refine pek_int ?_
      refine pak_cons ?_
      refine pek_int ?_
      refine pak_nil ?_
      refine ⟨_, rfl, Nat.le_of_ble_eq_true rfl, ?_⟩
      refine pek_has h__law_draw hr hg body_passes ?_
      refine pak_cons ?_
      refine pek_ow 0 ?_
      refine pak_cons ?_
      refine pek_int ?_
      refine pak_nil ?_
      refine ⟨(b1.2, (.int 4)), _, rfl, (show List.Nodup ([0] : List Nat) by decide), rfl, fun b6 => ?_⟩
      refine ⟨_, _, _, rfl, rfl, rfl, fun z7 => ?_⟩
      refine ⟨_, rfl, ?_⟩
      refine psk_cons ?_
      refine ps1_set 4 ?_ nd
      refine pek_ix ?_
      refine pek_va 1 ?_
      refine pek_has h__law_draw hr hg body_passes ?_
      refine pak_cons ?_
      refine pek_ow 0 ?_
      refine pak_cons ?_
      refine pek_blt blt_len B.len ?_
      refine pak_cons ?_
      refine pek_va 1 ?_
      refine pak_nil ?_
      refine ⟨_, _, rfl, rfl, fun z8 => ?_⟩
      refine pak_nil ?_
      refine ⟨(b6.2, z8), _, rfl, (show List.Nodup ([0] : List Nat) by decide), rfl, fun b9 => ?_⟩
      refine ⟨_, _, _, rfl, rfl, rfl, fun z10 => ?_⟩
      refine ⟨_, rfl, ?_⟩
      refine psk_cons (ps1_ret ?_)
      refine pek_bin bin_add ?_
      refine pek_tup ?_
      refine pak_cons ?_
      refine pek_va 4 ?_
      refine pak_nil ?_
      refine ⟨_, rfl, Nat.le_of_ble_eq_true rfl, ?_⟩
      refine pek_ty blt_tuple B.tuple ?_
      refine pak_cons ?_
      refine pek_lcK [("_law_k", 5)] (fun (c13 : List D) => [.ow (some 0) (.ls c13), .va a.2.1, .va a.2.2, .va z7, .va z10, .no]) (b1__law_any_atom a) ?_ ?_ (by intro c j hj; simp at hj; subst hj; rfl) nd rfl (show BlkOk N__law_any_atom (defScope s__law_any_atom) _ _ from ⟨rfl, by decide +kernel, by decide +kernel, by decide +kernel, by decide +kernel⟩)
      rotate_left
      · intro s' H' Ca cl fp y14 c13
        refine pgk_name 5 ?_ nd
        intro s2 H2 Ca2 cl2 fp2
        refine pek_has h__law_any_term hr hg blk_passes ?_
        refine pak_cons ?_
        refine pek_ow 0 ?_
        refine pak_cons ?_
        refine pek_va 1 ?_
        refine pak_cons ?_
        refine pek_bin bin_sub ?_
        refine pek_va 2 ?_
        refine pek_int ?_
        refine ⟨_, _, _, rfl, rfl, rfl, fun z17 => ?_⟩
        refine pak_nil ?_
        refine ⟨(c13, a.2.1, z17), _, rfl, (show List.Nodup ([0] : List Nat) by decide), rfl, fun b18 => ?_⟩
        exact ⟨_, b18.2, rfl, (.keep (.keep (.keep (.keep (.keep (.drop .nil)))))), rfl⟩
      refine pik_r1 B.range ?_
      refine pak_cons ?_
      refine pek_va 3 ?_
      refine pak_nil ?_
      refine ⟨_, _, rfl, rfl, fun i11 j12 => ?_⟩
      refine ⟨b9.2, _, (.keep (.keep (.keep (.keep (.keep (.keep .nil)))))), rfl, fun l19 c20 => ?_⟩
      refine pak_nil ?_
      refine ⟨_, _, rfl, rfl, fun z21 => ?_⟩
      refine ⟨_, _, _, rfl, rfl, rfl, fun z22 => ?_⟩
      refine ⟨_, rfl, ?_⟩
      exact rt_dw rfl rfl
def b1__law_any_argument (a : List D × D × D) (y8 : D) (c7 : List D) : R (D × List D) :=
  R.bind ((m__law_any_term 8) (c7, a.2.1, (.int 2))) fun b11 =>
  .ok (b11.1, b11.2)
def b2__law_any_argument  (y19 : D) (c18 : List D) : R (D × List D) :=
  R.bind (m__law_draw (c18, (.int 4))) fun b22 =>
  R.opt (ixD (.list [(.int 0), (.int 1), (.int 29), (.int 255)]) b22.1) fun z23 =>
  .ok (z23, b22.2)
def b3__law_any_argument (q__law_any_argument : List D × D × D → R (D × List D)) (a : List D × D × D) (y39 : D) (c38 : List D × List D) : R (Ct (List D × List D)) :=
  R.opt (addD a.2.1 (.list [(.str "")])) fun z40 =>
  R.opt (lenD [a.2.1]) fun z41 =>
  R.opt (addD z41 (.int 1)) fun z42 =>
  R.bind (m__law_draw (c38.1, z42)) fun b43 =>
  R.opt (ixD z40 b43.1) fun z44 =>
  R.opt (subD a.2.2 (.int 1)) fun z45 =>
  R.bind (q__law_any_argument (b43.2, a.2.1, z45)) fun b46 =>
  R.opt (apD c38.2 (.tuple [z44, b46.1])) fun z47 =>
  .ok (.nx (b46.2, z47))
def g__law_any_argument (q__law_any_argument : List D × D × D → R (D × List D)) (a : List D × D × D) : R (D × List D) :=
  R.opt (lenD [a.2.1]) fun z1 =>
  R.bind (m__law_draw (a.1, z1)) fun b2 =>
  R.opt (ixD a.2.1 b2.1) fun z3 =>
  R.bind (m__law_draw (b2.2, (.int 3))) fun b4 =>
  R.opt2 (rg1 [b4.1]) fun i5 j6 =>
  R.bind2 (lcL (b1__law_any_argument a) (rngD i5 j6) b4.2 []) fun l12 c13 =>
  R.opt (tupleD [(.list l12)]) fun z14 =>
  R.bind (m__law_draw (c13, (.int 3))) fun b15 =>
  R.opt2 (rg1 [b15.1]) fun i16 j17 =>
  R.bind2 (lcL b2__law_any_argument (rngD i16 j17) b15.2 []) fun l24 c25 =>
  R.opt (tupleD [(.list l24)]) fun z26 =>
  R.opt (addD z26 (.tuple [(.int 3)])) fun z27 =>
  R.opt (ixD z27 (.int 0)) fun z28 =>
  R.bind (m__law_draw (c25, (.int 256))) fun b29 =>
  R.opt (addD (.list [(.tuple [(.str "done"), z28, z14]), (.tuple [(.str "rule"), z3, z14, z26]), (.tuple [(.str "apply"), z3, z14, z26])]) (.list [(.tuple [(.str "invert"), b29.1])])) fun z30 =>
  R.bind (m__law_draw (b29.2, (.int 4))) fun b31 =>
  R.opt (ixD z30 b31.1) fun z32 =>
  R.bind (R.ite (gtD a.2.2 (.int 1)) (
  R.bind (m__law_draw (b31.2, (.int 4))) fun b34 =>
  R.opt (ixD (.list [(.int 1), (.int 0), (.int 2), (.int 1)]) b34.1) fun z35 =>
  R.opt2 (rg1 [z35]) fun i36 j37 =>
  R.bind (forL (b3__law_any_argument q__law_any_argument a) (rngD i36 j37) (b34.2, [])) (nxK fun (c48 : List D × List D) =>
  .ok (.nx (c48.1, c48.2)))) (
  .ok (.nx (b31.2, [])))) (nxK fun (c33 : List D × List D) =>
  R.opt (tupleD [(.list c33.2)]) fun z49 =>
  .ok ((.tuple [z32, z49]), c33.1))
theorem cov__law_any_argument : ∀ (a : List D × D × D) (b : D × List D) (j : Nat) (o : Ob), (ea__law_any_argument a)[j]? = some (.w o) → ∃ o', (j, o') ∈ ((erDW 0) b).2 := by
  intro a b j o h
  rcases j with _ | _ | _ | j
  · exact ⟨_, List.Mem.head _⟩
  · cases h
  · cases h
  · cases h
theorem hg__law_any_argument {k : Nat} (hD : DefAt K mg "_law_any_argument" s__law_any_argument P__law_any_argument) (B : Bl K w mg) {q__law_any_argument : List D × D × D → R (D × List D)} (h__law_draw : Has P w K mg base k "_law_draw" P__law_draw ea__law_draw (erDW 0) m__law_draw) (h__law_any_term : Has P w K mg base k "_law_any_term" P__law_any_term ea__law_any_term (erDW 0) (m__law_any_term 8)) (h__law_any_argument : Has P w K mg base k "_law_any_argument" P__law_any_argument ea__law_any_argument (erDW 0) q__law_any_argument) : Has P w K mg base (k + 1) "_law_any_argument" P__law_any_argument ea__law_any_argument (erDW 0) (g__law_any_argument q__law_any_argument) := by
  refine Has.mk' (N := N__law_any_argument) hD ⟨rfl, rfl, rfl, by decide +kernel, rfl, by decide +kernel, by decide +kernel⟩ (fun _ => rfl) (cov__law_any_argument) fun f cd A outer s H E W F a hr hg => ?main
  case main =>
    have nd : N__law_any_argument.Nodup := by decide +kernel
    refine psk_cons ?_
    refine ps1_set 3 ?_ nd
    refine pek_ix ?_
    refine pek_va 1 ?_
    refine pek_has h__law_draw hr hg body_passes ?_
    refine pak_cons ?_
    refine pek_ow 0 ?_
    refine pak_cons ?_
    refine pek_blt blt_len B.len ?_
    refine pak_cons ?_
    refine pek_va 1 ?_
    refine pak_nil ?_
    refine ⟨_, _, rfl, rfl, fun z1 => ?_⟩
    refine pak_nil ?_
    refine ⟨(a.1, z1), _, rfl, (show List.Nodup ([0] : List Nat) by decide), rfl, fun b2 => ?_⟩
    refine ⟨_, _, _, rfl, rfl, rfl, fun z3 => ?_⟩
    refine ⟨_, rfl, ?_⟩
    refine psk_cons ?_
    refine ps1_set 4 ?_ nd
    refine pek_ty blt_tuple B.tuple ?_
    refine pak_cons ?_
    refine pek_lcK [("_law_k", 9)] (fun (c7 : List D) => [.ow (some 0) (.ls c7), .va a.2.1, .va a.2.2, .va z3, .no, .no, .no, .no, .no, .no, .no]) (b1__law_any_argument a) ?_ ?_ (by intro c j hj; simp at hj; subst hj; rfl) nd rfl (show BlkOk N__law_any_argument (defScope s__law_any_argument) _ _ from ⟨rfl, by decide +kernel, by decide +kernel, by decide +kernel, by decide +kernel⟩)
    rotate_left
    · intro s' H' Ca cl fp y8 c7
      refine pgk_name 9 ?_ nd
      intro s2 H2 Ca2 cl2 fp2
      refine pek_has h__law_any_term hr hg blk_passes ?_
      refine pak_cons ?_
      refine pek_ow 0 ?_
      refine pak_cons ?_
      refine pek_va 1 ?_
      refine pak_cons ?_
      refine pek_int ?_
      refine pak_nil ?_
      refine ⟨(c7, a.2.1, (.int 2)), _, rfl, (show List.Nodup ([0] : List Nat) by decide), rfl, fun b11 => ?_⟩
      exact ⟨_, b11.2, rfl, (.keep (.keep (.keep (.keep (.keep (.keep (.keep (.keep (.keep (.drop (.keep .nil))))))))))), rfl⟩
    refine pik_r1 B.range ?_
    refine pak_cons ?_
    refine pek_has h__law_draw hr hg body_passes ?_
    refine pak_cons ?_
    refine pek_ow 0 ?_
    refine pak_cons ?_
    refine pek_int ?_
    refine pak_nil ?_
    refine ⟨(b2.2, (.int 3)), _, rfl, (show List.Nodup ([0] : List Nat) by decide), rfl, fun b4 => ?_⟩
    refine pak_nil ?_
    refine ⟨_, _, rfl, rfl, fun i5 j6 => ?_⟩
    refine ⟨b4.2, _, (.keep (.keep (.keep (.keep (.keep (.keep (.keep (.keep (.keep (.keep (.keep .nil))))))))))), rfl, fun l12 c13 => ?_⟩
    refine pak_nil ?_
    refine ⟨_, _, rfl, rfl, fun z14 => ?_⟩
    refine ⟨_, rfl, ?_⟩
    refine psk_cons ?_
    refine ps1_set 5 ?_ nd
    refine pek_ty blt_tuple B.tuple ?_
    refine pak_cons ?_
    refine pek_lcK [("_law_k", 9)] (fun (c18 : List D) => [.ow (some 0) (.ls c18), .va a.2.1, .va a.2.2, .va z3, .va z14, .no, .no, .no, .no, .no, .no]) b2__law_any_argument ?_ ?_ (by intro c j hj; simp at hj; subst hj; rfl) nd rfl (show BlkOk N__law_any_argument (defScope s__law_any_argument) _ _ from ⟨rfl, by decide +kernel, by decide +kernel, by decide +kernel, by decide +kernel⟩)
    rotate_left
    · intro s' H' Ca cl fp y19 c18
      refine pgk_name 9 ?_ nd
      intro s2 H2 Ca2 cl2 fp2
      refine pek_ix ?_
      refine pek_lst ?_
      refine pak_cons ?_
      refine pek_int ?_
      refine pak_cons ?_
      refine pek_int ?_
      refine pak_cons ?_
      refine pek_int ?_
      refine pak_cons ?_
      refine pek_int ?_
      refine pak_nil ?_
      refine ⟨_, rfl, Nat.le_of_ble_eq_true rfl, ?_⟩
      refine pek_has h__law_draw hr hg blk_passes ?_
      refine pak_cons ?_
      refine pek_ow 0 ?_
      refine pak_cons ?_
      refine pek_int ?_
      refine pak_nil ?_
      refine ⟨(c18, (.int 4)), _, rfl, (show List.Nodup ([0] : List Nat) by decide), rfl, fun b22 => ?_⟩
      refine ⟨_, _, _, rfl, rfl, rfl, fun z23 => ?_⟩
      exact ⟨_, b22.2, rfl, (.keep (.keep (.keep (.keep (.keep (.keep (.keep (.keep (.keep (.drop (.keep .nil))))))))))), rfl⟩
    refine pik_r1 B.range ?_
    refine pak_cons ?_
    refine pek_has h__law_draw hr hg body_passes ?_
    refine pak_cons ?_
    refine pek_ow 0 ?_
    refine pak_cons ?_
    refine pek_int ?_
    refine pak_nil ?_
    refine ⟨(c13, (.int 3)), _, rfl, (show List.Nodup ([0] : List Nat) by decide), rfl, fun b15 => ?_⟩
    refine pak_nil ?_
    refine ⟨_, _, rfl, rfl, fun i16 j17 => ?_⟩
    refine ⟨b15.2, _, (.keep (.keep (.keep (.keep (.keep (.keep (.keep (.keep (.keep (.keep (.keep .nil))))))))))), rfl, fun l24 c25 => ?_⟩
    refine pak_nil ?_
    refine ⟨_, _, rfl, rfl, fun z26 => ?_⟩
    refine ⟨_, rfl, ?_⟩
    refine psk_cons ?_
    refine ps1_set 6 ?_ nd
    refine pek_frz ?_
    refine pek_lst ?_
    refine pak_cons ?_
    refine pek_tup ?_
    refine pak_cons ?_
    refine pek_str ?_
    refine pak_cons ?_
    refine pek_ix ?_
    refine pek_bin bin_add ?_
    refine pek_va 5 ?_
    refine pek_tup ?_
    refine pak_cons ?_
    refine pek_int ?_
    refine pak_nil ?_
    refine ⟨_, rfl, Nat.le_of_ble_eq_true rfl, ?_⟩
    refine ⟨_, _, _, rfl, rfl, rfl, fun z27 => ?_⟩
    refine pek_int ?_
    refine ⟨_, _, _, rfl, rfl, rfl, fun z28 => ?_⟩
    refine pak_cons ?_
    refine pek_va 4 ?_
    refine pak_nil ?_
    refine ⟨_, rfl, Nat.le_of_ble_eq_true rfl, ?_⟩
    refine pak_cons ?_
    refine pek_tup ?_
    refine pak_cons ?_
    refine pek_str ?_
    refine pak_cons ?_
    refine pek_va 3 ?_
    refine pak_cons ?_
    refine pek_va 4 ?_
    refine pak_cons ?_
    refine pek_va 5 ?_
    refine pak_nil ?_
    refine ⟨_, rfl, Nat.le_of_ble_eq_true rfl, ?_⟩
    refine pak_cons ?_
    refine pek_tup ?_
    refine pak_cons ?_
    refine pek_str ?_
    refine pak_cons ?_
    refine pek_va 3 ?_
    refine pak_cons ?_
    refine pek_va 4 ?_
    refine pak_cons ?_
    refine pek_va 5 ?_
    refine pak_nil ?_
    refine ⟨_, rfl, Nat.le_of_ble_eq_true rfl, ?_⟩
    refine pak_nil ?_
    refine ⟨_, rfl, Nat.le_of_ble_eq_true rfl, ?_⟩
    refine ⟨_, rfl, ?_⟩
    refine ⟨_, rfl, ?_⟩
    refine psk_cons ?_
    refine ps1_set 7 ?_ nd
    refine pek_ix ?_
    refine pek_bin bin_add ?_
    refine pek_va 6 ?_
    refine pek_lst ?_
    refine pak_cons ?_
    refine pek_tup ?_
    refine pak_cons ?_
    refine pek_str ?_
    refine pak_cons ?_
    refine pek_has h__law_draw hr hg body_passes ?_
    refine pak_cons ?_
    refine pek_ow 0 ?_
    refine pak_cons ?_
    refine pek_int ?_
    refine pak_nil ?_
    refine ⟨(c25, (.int 256)), _, rfl, (show List.Nodup ([0] : List Nat) by decide), rfl, fun b29 => ?_⟩
    refine pak_nil ?_
    refine ⟨_, rfl, Nat.le_of_ble_eq_true rfl, ?_⟩
    refine pak_nil ?_
    refine ⟨_, rfl, Nat.le_of_ble_eq_true rfl, ?_⟩
    refine ⟨_, _, _, rfl, rfl, rfl, fun z30 => ?_⟩
    refine pek_has h__law_draw hr hg body_passes ?_
    refine pak_cons ?_
    refine pek_ow 0 ?_
    refine pak_cons ?_
    refine pek_int ?_
    refine pak_nil ?_
    refine ⟨(b29.2, (.int 4)), _, rfl, (show List.Nodup ([0] : List Nat) by decide), rfl, fun b31 => ?_⟩
    refine ⟨_, _, _, rfl, rfl, rfl, fun z32 => ?_⟩
    refine ⟨_, rfl, ?_⟩
    refine psk_cons ?_
    refine ps1_setO 8 ?_ nd
    refine pek_lst ?_
    refine pak_nil ?_
    refine ⟨_, rfl, Nat.le_of_ble_eq_true rfl, ?_⟩
    refine ⟨_, rfl, ?_⟩
    refine psk_cons ?_
    refine ps1_joinK (fun (c33 : List D × List D) => [.ow (some 0) (.ls c33.1), .va a.2.1, .va a.2.2, .va z3, .va z14, .va z26, .va (.list [(.tuple [(.str "done"), z28, z14]), (.tuple [(.str "rule"), z3, z14, z26]), (.tuple [(.str "apply"), z3, z14, z26])]), .va z32, .ow none (.ls c33.2), .no, .no]) rfl ?_ (fun c33 => ?_)
    · refine ps1_if ?_
      refine ptk_cmp cmp_gt ?_
      refine pek_va 2 ?_
      refine pek_int ?_
      refine AfterC.ite rfl rfl rfl ?_ ?_
      · refine psk_cons ?_
        refine ps1_forK [9] (fun (c38 : List D × List D) => [.ow (some 0) (.ls c38.1), .va a.2.1, .va a.2.2, .va z3, .va z14, .va z26, .va (.list [(.tuple [(.str "done"), z28, z14]), (.tuple [(.str "rule"), z3, z14, z26]), (.tuple [(.str "apply"), z3, z14, z26])]), .va z32, .ow none (.ls c38.2), .no, .no]) (b3__law_any_argument q__law_any_argument a) ?_ ?_ body_own rfl
        rotate_left
        · intro y39 c38
          refine pgk_name 9 ?_ nd
          refine psk_cons ?_
          refine ps1_set 10 ?_ nd
          refine pek_ix ?_
          refine pek_bin bin_add ?_
          refine pek_va 1 ?_
          refine pek_lst ?_
          refine pak_cons ?_
          refine pek_str ?_
          refine pak_nil ?_
          refine ⟨_, rfl, Nat.le_of_ble_eq_true rfl, ?_⟩
          refine ⟨_, _, _, rfl, rfl, rfl, fun z40 => ?_⟩
          refine pek_has h__law_draw hr hg body_passes ?_
          refine pak_cons ?_
          refine pek_ow 0 ?_
          refine pak_cons ?_
          refine pek_bin bin_add ?_
          refine pek_blt blt_len B.len ?_
          refine pak_cons ?_
          refine pek_va 1 ?_
          refine pak_nil ?_
          refine ⟨_, _, rfl, rfl, fun z41 => ?_⟩
          refine pek_int ?_
          refine ⟨_, _, _, rfl, rfl, rfl, fun z42 => ?_⟩
          refine pak_nil ?_
          refine ⟨(c38.1, z42), _, rfl, (show List.Nodup ([0] : List Nat) by decide), rfl, fun b43 => ?_⟩
          refine ⟨_, _, _, rfl, rfl, rfl, fun z44 => ?_⟩
          refine ⟨_, rfl, ?_⟩
          refine psk_cons ?_
          refine ps1_append 8 ⟨_, _, rfl, ?_⟩
          refine pek_tup ?_
          refine pak_cons ?_
          refine pek_va 10 ?_
          refine pak_cons ?_
          refine pek_has h__law_any_argument hr hg body_passes ?_
          refine pak_cons ?_
          refine pek_ow 0 ?_
          refine pak_cons ?_
          refine pek_va 1 ?_
          refine pak_cons ?_
          refine pek_bin bin_sub ?_
          refine pek_va 2 ?_
          refine pek_int ?_
          refine ⟨_, _, _, rfl, rfl, rfl, fun z45 => ?_⟩
          refine pak_nil ?_
          refine ⟨(b43.2, a.2.1, z45), _, rfl, (show List.Nodup ([0] : List Nat) by decide), rfl, fun b46 => ?_⟩
          refine pak_nil ?_
          refine ⟨_, rfl, Nat.le_of_ble_eq_true rfl, ?_⟩
          refine ⟨_, _, _, _, rfl, rfl, rfl, fun z47 => ?_⟩
          refine psk_nil ?_
          exact ⟨(b46.2, z47), (.keep (.keep (.keep (.keep (.keep (.keep (.keep (.keep (.keep (.drop (.drop .nil))))))))))), rfl⟩
        refine pik_r1 B.range ?_
        refine pak_cons ?_
        refine pek_ix ?_
        refine pek_lst ?_
        refine pak_cons ?_
        refine pek_int ?_
        refine pak_cons ?_
        refine pek_int ?_
        refine pak_cons ?_
        refine pek_int ?_
        refine pak_cons ?_
        refine pek_int ?_
        refine pak_nil ?_
        refine ⟨_, rfl, Nat.le_of_ble_eq_true rfl, ?_⟩
        refine pek_has h__law_draw hr hg body_passes ?_
        refine pak_cons ?_
        refine pek_ow 0 ?_
        refine pak_cons ?_
        refine pek_int ?_
        refine pak_nil ?_
        refine ⟨(b31.2, (.int 4)), _, rfl, (show List.Nodup ([0] : List Nat) by decide), rfl, fun b34 => ?_⟩
        refine ⟨_, _, _, rfl, rfl, rfl, fun z35 => ?_⟩
        refine pak_nil ?_
        refine ⟨_, _, rfl, rfl, fun i36 j37 => ?_⟩
        refine ⟨(b34.2, []), _, (.keep (.keep (.keep (.keep (.keep (.keep (.keep (.keep (.keep (.keep (.keep .nil))))))))))), rfl, fun c48 => ?_⟩
        refine psk_nil ?_
        exact ⟨(c48.1, c48.2), (.keep (.keep (.keep (.keep (.keep (.keep (.keep (.keep (.keep (.keep (.keep .nil))))))))))), rfl⟩
      · refine psk_nil ?_
        exact ⟨(b31.2, []), (.keep (.keep (.keep (.keep (.keep (.keep (.keep (.keep (.keep (.keep (.keep .nil))))))))))), rfl⟩
    refine psk_cons (ps1_ret ?_)
    refine pek_tup ?_
    refine pak_cons ?_
    refine pek_va 7 ?_
    refine pak_cons ?_
    refine pek_ty blt_tuple B.tuple ?_
    refine pak_cons ?_
    refine pek_ow 8 ?_
    refine pak_nil ?_
    refine ⟨_, _, rfl, rfl, fun z49 => ?_⟩
    refine pak_nil ?_
    refine ⟨_, rfl, Nat.le_of_ble_eq_true rfl, ?_⟩
    refine ⟨_, rfl, ?_⟩
    exact rt_dw rfl rfl
def m__law_any_argument : Nat → List D × D × D → R (D × List D)
  | 0 => fun _ => .stuck
  | n + 1 => g__law_any_argument (m__law_any_argument n)
def b1__law_any_parts  (y6 : D) (c5 : List D × List D) : R (D × (List D × List D)) :=
  R.bind (m__law_fresh (c5.1, c5.2)) fun b9 =>
  .ok (b9.1, (b9.2.1, b9.2.2))
def b2__law_any_parts (l10 : List D) (y21 : D) (c20 : List D) : R (D × List D) :=
  R.bind (m__law_any_atom (c20, (.list l10), (.int 3))) fun b24 =>
  .ok (b24.1, b24.2)
def b3__law_any_parts (l10 : List D) (y16 : D) (c15 : List D × List D) : R (Ct (List D × List D)) :=
  R.bind (m__law_draw (c15.1, (.int 4))) fun b17 =>
  R.opt2 (rg1 [b17.1]) fun i18 j19 =>
  R.bind2 (lcL (b2__law_any_parts l10) (rngD i18 j19) b17.2 []) fun l25 c26 =>
  R.opt (tupleD [(.list l25)]) fun z27 =>
  R.opt (lenD [(.list l10)]) fun z28 =>
  R.bind (m__law_draw (c26, z28)) fun b29 =>
  R.opt (ixD (.list l10) b29.1) fun z30 =>
  R.bind (m__law_any_atom (b29.2, (.list l10), (.int 3))) fun b31 =>
  R.opt (apD c15.2 (.tuple [z30, z27, b31.1])) fun z32 =>
  .ok (.nx (b31.2, z32))
def b4__law_any_parts (l10 : List D) (y49 : D) (c48 : List D) : R (D × List D) :=
  R.bind (m__law_any_atom (c48, (.list l10), (.int 2))) fun b52 =>
  .ok (b52.1, b52.2)
def b5__law_any_parts (l10 : List D) (y65 : D) (c64 : List D) : R (D × List D) :=
  R.bind (m__law_any_atom (c64, (.list l10), (.int 2))) fun b68 =>
  .ok (b68.1, b68.2)
def b6__law_any_parts (l10 : List D) (y60 : D) (c59 : List D × List D) : R (Ct (List D × List D)) :=
  R.bind (m__law_draw (c59.1, (.int 3))) fun b61 =>
  R.opt2 (rg1 [b61.1]) fun i62 j63 =>
  R.bind2 (lcL (b5__law_any_parts l10) (rngD i62 j63) b61.2 []) fun l69 c70 =>
  R.opt (tupleD [(.list l69)]) fun z71 =>
  R.opt (apD c59.2 z71) fun z72 =>
  .ok (.nx (c70, z72))
def b7__law_any_parts  (y81 : D) (c80 : List D) : R (D × List D) :=
  R.bind (m__law_draw (c80, (.int 4))) fun b84 =>
  R.opt (ixD (.list [(.int 0), (.int 1), (.int 7), (.int 255)]) b84.1) fun z85 =>
  .ok (z85, b84.2)
def b8__law_any_parts (l10 : List D) (y44 : D) (c43 : List D × List D) : R (Ct (List D × List D)) :=
  R.bind (m__law_draw (c43.1, (.int 3))) fun b45 =>
  R.opt2 (rg1 [b45.1]) fun i46 j47 =>
  R.bind2 (lcL (b4__law_any_parts l10) (rngD i46 j47) b45.2 []) fun l53 c54 =>
  R.opt (tupleD [(.list l53)]) fun z55 =>
  R.bind (m__law_draw (c54, (.int 3))) fun b56 =>
  R.opt2 (rg1 [b56.1]) fun i57 j58 =>
  R.bind (forL (b6__law_any_parts l10) (rngD i57 j58) (b56.2, [])) (nxK fun (c73 : List D × List D) =>
  R.bind (m__law_draw (c73.1, (.int 4))) fun b74 =>
  R.opt (ixD (.list [(.int 0), (.int 1), (.int 2), (.int 255)]) b74.1) fun z75 =>
  R.opt (tupleD [(.list c73.2)]) fun z76 =>
  R.bind (m__law_draw (b74.2, (.int 3))) fun b77 =>
  R.opt2 (rg1 [b77.1]) fun i78 j79 =>
  R.bind2 (lcL b7__law_any_parts (rngD i78 j79) b77.2 []) fun l86 c87 =>
  R.opt (tupleD [(.list l86)]) fun z88 =>
  R.opt (lenD [(.list l10)]) fun z89 =>
  R.bind (m__law_draw (c87, z89)) fun b90 =>
  R.opt (ixD (.list l10) b90.1) fun z91 =>
  R.opt (apD c43.2 (.tuple [z91, (.tuple [z75, z55, z76]), z88])) fun z92 =>
  .ok (.nx (b90.2, z92)))
def b9__law_any_parts (l10 : List D) (y38 : D) (c37 : List D × List D) : R (Ct (List D × List D)) :=
  R.bind (m__law_draw (c37.1, (.int 2))) fun b39 =>
  R.opt (addD (.int 1) b39.1) fun z40 =>
  R.opt2 (rg1 [z40]) fun i41 j42 =>
  R.bind (forL (b8__law_any_parts l10) (rngD i41 j42) (b39.2, [])) (nxK fun (c93 : List D × List D) =>
  R.bind (m__law_draw (c93.1, (.int 2))) fun b94 =>
  R.opt (eqD b94.1 (.int 0)) fun z95 =>
  R.opt (tupleD [(.list c93.2)]) fun z96 =>
  R.opt (apD c37.2 (.tuple [(.bool z95), z96])) fun z97 =>
  .ok (.nx (b94.2, z97)))
def b10__law_any_parts (l10 : List D) (y103 : D) (c102 : List D × List D) : R (Ct (List D × List D)) :=
  R.opt (addD (.list l10) (.list [.none, .none])) fun z104 =>
  R.opt (lenD [(.list l10)]) fun z105 =>
  R.opt (addD z105 (.int 2)) fun z106 =>
  R.bind (m__law_draw (c102.1, z106)) fun b107 =>
  R.opt (ixD z104 b107.1) fun z108 =>
  R.bind (m__law_draw (b107.2, (.int 4))) fun b109 =>
  R.opt (addD (.int 1) b109.1) fun z110 =>
  R.bind ((m__law_any_argument 8) (b109.2, (.list l10), z110)) fun b111 =>
  R.opt (lenD [(.list l10)]) fun z112 =>
  R.bind (m__law_draw (b111.2, z112)) fun b113 =>
  R.opt (ixD (.list l10) b113.1) fun z114 =>
  R.opt (apD c102.2 (.tuple [z114, z108, b111.1])) fun z115 =>
  .ok (.nx (b113.2, z115))
def b11__law_any_parts (l10 : List D) (y121 : D) (c120 : List D) : R (D × List D) :=
  R.opt (lenD [(.list l10)]) fun z124 =>
  R.bind (m__law_draw (c120, z124)) fun b125 =>
  R.opt (ixD (.list l10) b125.1) fun z126 =>
  .ok (z126, b125.2)
def m__law_any_parts (a : List D) : R (D × List D) :=
  R.bind (m__law_draw (a, (.int 4))) fun b1 =>
  R.opt (addD (.int 2) b1.1) fun z2 =>
  R.opt2 (rg1 [z2]) fun i3 j4 =>
  R.bind2 (lcL b1__law_any_parts (rngD i3 j4) (b1.2, []) []) fun l10 c11 =>
  R.bind (m__law_draw (c11.1, (.int 4))) fun b12 =>
  R.opt2 (rg1 [b12.1]) fun i13 j14 =>
  R.bind (forL (b3__law_any_parts l10) (rngD i13 j14) (b12.2, [])) (nxK fun (c33 : List D × List D) =>
  R.bind (m__law_draw (c33.1, (.int 3))) fun b34 =>
  R.opt2 (rg1 [b34.1]) fun i35 j36 =>
  R.bind (forL (b9__law_any_parts l10) (rngD i35 j36) (b34.2, [])) (nxK fun (c98 : List D × List D) =>
  R.bind (m__law_draw (c98.1, (.int 3))) fun b99 =>
  R.opt2 (rg1 [b99.1]) fun i100 j101 =>
  R.bind (forL (b10__law_any_parts l10) (rngD i100 j101) (b99.2, [])) (nxK fun (c116 : List D × List D) =>
  R.bind (m__law_draw (c116.1, (.int 3))) fun b117 =>
  R.opt2 (rg1 [b117.1]) fun i118 j119 =>
  R.bind2 (lcL (b11__law_any_parts l10) (rngD i118 j119) b117.2 []) fun l127 c128 =>
  R.opt (tupleD [(.list l127)]) fun z129 =>
  R.opt (ixD (.list l10) (.int 0)) fun z130 =>
  R.opt (tupleD [(.list c33.2)]) fun z131 =>
  R.opt (tupleD [(.list c98.2)]) fun z132 =>
  R.opt (tupleD [(.list c116.2)]) fun z133 =>
  .ok ((.tuple [z130, z129, z131, z132, z133]), c128))))
theorem cov__law_any_parts : ∀ (a : List D) (b : D × List D) (j : Nat) (o : Ob), (ea__law_any_parts a)[j]? = some (.w o) → ∃ o', (j, o') ∈ ((erDW 0) b).2 := by
  intro a b j o h
  rcases j with _ | j
  · exact ⟨_, List.Mem.head _⟩
  · cases h
theorem h__law_any_parts {k : Nat} (hk : 7 ≤ k) (hD : DefAt K mg "_law_any_parts" s__law_any_parts P__law_any_parts) (B : Bl K w mg) (h__law_draw : Has P w K mg base k "_law_draw" P__law_draw ea__law_draw (erDW 0) m__law_draw) (h__law_fresh : Has P w K mg base k "_law_fresh" P__law_fresh ea__law_fresh (erDWW 0 1) m__law_fresh) (h__law_any_atom : Has P w K mg base k "_law_any_atom" P__law_any_atom ea__law_any_atom (erDW 0) m__law_any_atom) (h__law_any_argument : Has P w K mg base k "_law_any_argument" P__law_any_argument ea__law_any_argument (erDW 0) (m__law_any_argument 8)) : Has P w K mg base (k + 1) "_law_any_parts" P__law_any_parts ea__law_any_parts (erDW 0) m__law_any_parts := by
  refine Has.mk' (N := N__law_any_parts) hD ⟨rfl, rfl, rfl, by decide +kernel, rfl, by decide +kernel, by decide +kernel⟩ (fun _ => rfl) (cov__law_any_parts) fun f cd A outer s H E W F a hr hg => ?main
  case main =>
    have nd : N__law_any_parts.Nodup := by decide +kernel
    have hu := room_eq hr hk
    refine psk_cons ?_
    refine ps1_setO 1 ?_ nd
    refine pek_lst ?_
    refine pak_nil ?_
    refine ⟨_, rfl, Nat.le_of_ble_eq_true rfl, ?_⟩
    refine ⟨_, rfl, ?_⟩
    refine psk_cons ?_
    refine ps1_set 2 ?_ nd
    refine pek_frz ?_
    refine pek_lcK [("_law_k", 4)] (fun (c5 : List D × List D) => [.ow (some 0) (.ls c5.1), .ow none (.ls c5.2), .no, .no, .no, .no, .no, .no, .no, .no, .no, .no, .no, .no, .no, .no, .no, .no, .no]) b1__law_any_parts ?_ ?_ (by intro c j hj; simp at hj; subst hj; rfl) nd rfl (show BlkOk N__law_any_parts (defScope s__law_any_parts) _ _ from ⟨rfl, by decide +kernel, by decide +kernel, by decide +kernel, by decide +kernel⟩)
    rotate_left
    · intro s' H' Ca cl fp y6 c5
      refine pgk_name 4 ?_ nd
      intro s2 H2 Ca2 cl2 fp2
      refine pek_has h__law_fresh hr hg blk_passes ?_
      refine pak_cons ?_
      refine pek_ow 0 ?_
      refine pak_cons ?_
      refine pek_ow 1 ?_
      refine pak_nil ?_
      refine ⟨(c5.1, c5.2), _, rfl, (show List.Nodup ([0, 1] : List Nat) by decide), rfl, fun b9 => ?_⟩
      exact ⟨_, (b9.2.1, b9.2.2), rfl, (.keep (.keep (.keep (.keep (.drop (.keep (.keep (.keep (.keep (.keep (.keep (.keep (.keep (.keep (.keep (.keep (.keep (.keep (.keep .nil))))))))))))))))))), rfl⟩
    refine pik_r1 B.range ?_
    refine pak_cons ?_
    refine pek_bin bin_add ?_
    refine pek_int ?_
    refine pek_has h__law_draw hr hg body_passes ?_
    refine pak_cons ?_
    refine pek_ow 0 ?_
    refine pak_cons ?_
    refine pek_int ?_
    refine pak_nil ?_
    refine ⟨(a, (.int 4)), _, rfl, (show List.Nodup ([0] : List Nat) by decide), rfl, fun b1 => ?_⟩
    refine ⟨_, _, _, rfl, rfl, rfl, fun z2 => ?_⟩
    refine pak_nil ?_
    refine ⟨_, _, rfl, rfl, fun i3 j4 => ?_⟩
    refine ⟨(b1.2, []), _, (.keep (.keep (.keep (.keep (.keep (.keep (.keep (.keep (.keep (.keep (.keep (.keep (.keep (.keep (.keep (.keep (.keep (.keep (.keep .nil))))))))))))))))))), rfl, fun l10 c11 => ?_⟩
    refine ⟨_, rfl, ?_⟩
    refine ⟨_, rfl, ?_⟩
    refine psk_cons ?_
    refine ps1_setO 3 ?_ nd
    refine pek_lst ?_
    refine pak_nil ?_
    refine ⟨_, rfl, Nat.le_of_ble_eq_true rfl, ?_⟩
    refine ⟨_, rfl, ?_⟩
    refine psk_cons ?_
    refine ps1_forK [4] (fun (c15 : List D × List D) => [.ow (some 0) (.ls c15.1), .ow none (.ls c11.2), .va (.list l10), .ow none (.ls c15.2), .no, .no, .no, .no, .no, .no, .no, .no, .no, .no, .no, .no, .no, .no, .no]) (b3__law_any_parts l10) ?_ ?_ body_own rfl
    rotate_left
    · intro y16 c15
      refine pgk_name 4 ?_ nd
      refine psk_cons ?_
      refine ps1_set 5 ?_ nd
      refine pek_ty blt_tuple B.tuple ?_
      refine pak_cons ?_
      refine pek_lcK [("_law_j", 8)] (fun (c20 : List D) => [.ow (some 0) (.ls c20), .ow none (.ls c11.2), .va (.list l10), .ow none (.ls c15.2), .va y16, .no, .no, .no, .no, .no, .no, .no, .no, .no, .no, .no, .no, .no, .no]) (b2__law_any_parts l10) ?_ ?_ (by intro c j hj; simp at hj; subst hj; rfl) nd rfl (show BlkOk N__law_any_parts (defScope s__law_any_parts) _ _ from ⟨rfl, by decide +kernel, by decide +kernel, by decide +kernel, by decide +kernel⟩)
      rotate_left
      · intro s' H' Ca cl fp y21 c20
        refine pgk_name 8 ?_ nd
        intro s2 H2 Ca2 cl2 fp2
        refine pek_has h__law_any_atom hr hg blk_passes ?_
        refine pak_cons ?_
        refine pek_ow 0 ?_
        refine pak_cons ?_
        refine pek_va 2 ?_
        refine pak_cons ?_
        refine pek_int ?_
        refine pak_nil ?_
        refine ⟨(c20, (.list l10), (.int 3)), _, rfl, (show List.Nodup ([0] : List Nat) by decide), rfl, fun b24 => ?_⟩
        exact ⟨_, b24.2, rfl, (.keep (.keep (.keep (.keep (.keep (.keep (.keep (.keep (.drop (.keep (.keep (.keep (.keep (.keep (.keep (.keep (.keep (.keep (.keep .nil))))))))))))))))))), rfl⟩
      refine pik_r1 B.range ?_
      refine pak_cons ?_
      refine pek_has h__law_draw hr hg body_passes ?_
      refine pak_cons ?_
      refine pek_ow 0 ?_
      refine pak_cons ?_
      refine pek_int ?_
      refine pak_nil ?_
      refine ⟨(c15.1, (.int 4)), _, rfl, (show List.Nodup ([0] : List Nat) by decide), rfl, fun b17 => ?_⟩
      refine pak_nil ?_
      refine ⟨_, _, rfl, rfl, fun i18 j19 => ?_⟩
      refine ⟨b17.2, _, (.keep (.keep (.keep (.keep (.keep (.keep (.keep (.keep (.keep (.keep (.keep (.keep (.keep (.keep (.keep (.keep (.keep (.keep (.keep .nil))))))))))))))))))), rfl, fun l25 c26 => ?_⟩
      refine pak_nil ?_
      refine ⟨_, _, rfl, rfl, fun z27 => ?_⟩
      refine ⟨_, rfl, ?_⟩
      refine psk_cons ?_
      refine ps1_append 3 ⟨_, _, rfl, ?_⟩
      refine pek_tup ?_
      refine pak_cons ?_
      refine pek_ix ?_
      refine pek_va 2 ?_
      refine pek_has h__law_draw hr hg body_passes ?_
      refine pak_cons ?_
      refine pek_ow 0 ?_
      refine pak_cons ?_
      refine pek_blt blt_len B.len ?_
      refine pak_cons ?_
      refine pek_va 2 ?_
      refine pak_nil ?_
      refine ⟨_, _, rfl, rfl, fun z28 => ?_⟩
      refine pak_nil ?_
      refine ⟨(c26, z28), _, rfl, (show List.Nodup ([0] : List Nat) by decide), rfl, fun b29 => ?_⟩
      refine ⟨_, _, _, rfl, rfl, rfl, fun z30 => ?_⟩
      refine pak_cons ?_
      refine pek_va 5 ?_
      refine pak_cons ?_
      refine pek_has h__law_any_atom hr hg body_passes ?_
      refine pak_cons ?_
      refine pek_ow 0 ?_
      refine pak_cons ?_
      refine pek_va 2 ?_
      refine pak_cons ?_
      refine pek_int ?_
      refine pak_nil ?_
      refine ⟨(b29.2, (.list l10), (.int 3)), _, rfl, (show List.Nodup ([0] : List Nat) by decide), rfl, fun b31 => ?_⟩
      refine pak_nil ?_
      refine ⟨_, rfl, Nat.le_of_ble_eq_true rfl, ?_⟩
      refine ⟨_, _, _, _, rfl, rfl, rfl, fun z32 => ?_⟩
      refine psk_nil ?_
      exact ⟨(b31.2, z32), (.keep (.keep (.keep (.keep (.drop (.drop (.keep (.keep (.keep (.keep (.keep (.keep (.keep (.keep (.keep (.keep (.keep (.keep (.keep .nil))))))))))))))))))), rfl⟩
    refine pik_r1 B.range ?_
    refine pak_cons ?_
    refine pek_has h__law_draw hr hg body_passes ?_
    refine pak_cons ?_
    refine pek_ow 0 ?_
    refine pak_cons ?_
    refine pek_int ?_
    refine pak_nil ?_
    refine ⟨(c11.1, (.int 4)), _, rfl, (show List.Nodup ([0] : List Nat) by decide), rfl, fun b12 => ?_⟩
    refine pak_nil ?_
    refine ⟨_, _, rfl, rfl, fun i13 j14 => ?_⟩
    refine ⟨(b12.2, []), _, (.keep (.keep (.keep (.keep (.keep (.keep (.keep (.keep (.keep (.keep (.keep (.keep (.keep (.keep (.keep (.keep (.keep (.keep (.keep .nil))))))))))))))))))), rfl, fun c33 => ?_⟩
    refine psk_cons ?_
    refine ps1_setO 6 ?_ nd
    refine pek_lst ?_
    refine pak_nil ?_
    refine ⟨_, rfl, Nat.le_of_ble_eq_true rfl, ?_⟩
    refine ⟨_, rfl, ?_⟩
    refine psk_cons ?_
    refine ps1_forK [4] (fun (c37 : List D × List D) => [.ow (some 0) (.ls c37.1), .ow none (.ls c11.2), .va (.list l10), .ow none (.ls c33.2), .no, .no, .ow none (.ls c37.2), .no, .no, .no, .no, .no, .no, .no, .no, .no, .no, .no, .no]) (b9__law_any_parts l10) ?_ ?_ body_own rfl
    rotate_left
    · intro y38 c37
      refine pgk_name 4 ?_ nd
      refine psk_cons ?_
      refine ps1_setO 7 ?_ nd
      refine pek_lst ?_
      refine pak_nil ?_
      refine ⟨_, rfl, Nat.le_of_ble_eq_true rfl, ?_⟩
      refine ⟨_, rfl, ?_⟩
      refine psk_cons ?_
      refine ps1_forK [8] (fun (c43 : List D × List D) => [.ow (some 0) (.ls c43.1), .ow none (.ls c11.2), .va (.list l10), .ow none (.ls c33.2), .va y38, .no, .ow none (.ls c37.2), .ow none (.ls c43.2), .no, .no, .no, .no, .no, .no, .no, .no, .no, .no, .no]) (b8__law_any_parts l10) ?_ ?_ body_own rfl
      rotate_left
      · intro y44 c43
        refine pgk_name 8 ?_ nd
        refine psk_cons ?_
        refine ps1_set 9 ?_ nd
        refine pek_ty blt_tuple B.tuple ?_
        refine pak_cons ?_
        refine pek_lcK [("_law_i", 11)] (fun (c48 : List D) => [.ow (some 0) (.ls c48), .ow none (.ls c11.2), .va (.list l10), .ow none (.ls c33.2), .va y38, .no, .ow none (.ls c37.2), .ow none (.ls c43.2), .va y44, .no, .no, .no, .no, .no, .no, .no, .no, .no, .no]) (b4__law_any_parts l10) ?_ ?_ (by intro c j hj; simp at hj; subst hj; rfl) nd rfl (show BlkOk N__law_any_parts (defScope s__law_any_parts) _ _ from ⟨rfl, by decide +kernel, by decide +kernel, by decide +kernel, by decide +kernel⟩)
        rotate_left
        · intro s' H' Ca cl fp y49 c48
          refine pgk_name 11 ?_ nd
          intro s2 H2 Ca2 cl2 fp2
          refine pek_has h__law_any_atom hr hg blk_passes ?_
          refine pak_cons ?_
          refine pek_ow 0 ?_
          refine pak_cons ?_
          refine pek_va 2 ?_
          refine pak_cons ?_
          refine pek_int ?_
          refine pak_nil ?_
          refine ⟨(c48, (.list l10), (.int 2)), _, rfl, (show List.Nodup ([0] : List Nat) by decide), rfl, fun b52 => ?_⟩
          exact ⟨_, b52.2, rfl, (.keep (.keep (.keep (.keep (.keep (.keep (.keep (.keep (.keep (.keep (.keep (.drop (.keep (.keep (.keep (.keep (.keep (.keep (.keep .nil))))))))))))))))))), rfl⟩
        refine pik_r1 B.range ?_
        refine pak_cons ?_
        refine pek_has h__law_draw hr hg body_passes ?_
        refine pak_cons ?_
        refine pek_ow 0 ?_
        refine pak_cons ?_
        refine pek_int ?_
        refine pak_nil ?_
        refine ⟨(c43.1, (.int 3)), _, rfl, (show List.Nodup ([0] : List Nat) by decide), rfl, fun b45 => ?_⟩
        refine pak_nil ?_
        refine ⟨_, _, rfl, rfl, fun i46 j47 => ?_⟩
        refine ⟨b45.2, _, (.keep (.keep (.keep (.keep (.keep (.keep (.keep (.keep (.keep (.keep (.keep (.keep (.keep (.keep (.keep (.keep (.keep (.keep (.keep .nil))))))))))))))))))), rfl, fun l53 c54 => ?_⟩
        refine pak_nil ?_
        refine ⟨_, _, rfl, rfl, fun z55 => ?_⟩
        refine ⟨_, rfl, ?_⟩
        refine psk_cons ?_
        refine ps1_setO 10 ?_ nd
        refine pek_lst ?_
        refine pak_nil ?_
        refine ⟨_, rfl, Nat.le_of_ble_eq_true rfl, ?_⟩
        refine ⟨_, rfl, ?_⟩
        refine psk_cons ?_
        refine ps1_forK [11] (fun (c59 : List D × List D) => [.ow (some 0) (.ls c59.1), .ow none (.ls c11.2), .va (.list l10), .ow none (.ls c33.2), .va y38, .no, .ow none (.ls c37.2), .ow none (.ls c43.2), .va y44, .va z55, .ow none (.ls c59.2), .no, .no, .no, .no, .no, .no, .no, .no]) (b6__law_any_parts l10) ?_ ?_ body_own rfl
        rotate_left
        · intro y60 c59
          refine pgk_name 11 ?_ nd
          refine psk_cons ?_
          refine ps1_append 10 ⟨_, _, rfl, ?_⟩
          refine pek_ty blt_tuple B.tuple ?_
          refine pak_cons ?_
          refine pek_lcK [("_law_h", 18)] (fun (c64 : List D) => [.ow (some 0) (.ls c64), .ow none (.ls c11.2), .va (.list l10), .ow none (.ls c33.2), .va y38, .no, .ow none (.ls c37.2), .ow none (.ls c43.2), .va y44, .va z55, .ow none (.ls c59.2), .va y60, .no, .no, .no, .no, .no, .no, .no]) (b5__law_any_parts l10) ?_ ?_ (by intro c j hj; simp at hj; subst hj; rfl) nd rfl (show BlkOk N__law_any_parts (defScope s__law_any_parts) _ _ from ⟨rfl, by decide +kernel, by decide +kernel, by decide +kernel, by decide +kernel⟩)
          rotate_left
          · intro s' H' Ca cl fp y65 c64
            refine pgk_name 18 ?_ nd
            intro s2 H2 Ca2 cl2 fp2
            refine pek_has h__law_any_atom hr hg blk_passes ?_
            refine pak_cons ?_
            refine pek_ow 0 ?_
            refine pak_cons ?_
            refine pek_va 2 ?_
            refine pak_cons ?_
            refine pek_int ?_
            refine pak_nil ?_
            refine ⟨(c64, (.list l10), (.int 2)), _, rfl, (show List.Nodup ([0] : List Nat) by decide), rfl, fun b68 => ?_⟩
            exact ⟨_, b68.2, rfl, (.keep (.keep (.keep (.keep (.keep (.keep (.keep (.keep (.keep (.keep (.keep (.keep (.keep (.keep (.keep (.keep (.keep (.keep (.drop .nil))))))))))))))))))), rfl⟩
          refine pik_r1 B.range ?_
          refine pak_cons ?_
          refine pek_has h__law_draw hr hg body_passes ?_
          refine pak_cons ?_
          refine pek_ow 0 ?_
          refine pak_cons ?_
          refine pek_int ?_
          refine pak_nil ?_
          refine ⟨(c59.1, (.int 3)), _, rfl, (show List.Nodup ([0] : List Nat) by decide), rfl, fun b61 => ?_⟩
          refine pak_nil ?_
          refine ⟨_, _, rfl, rfl, fun i62 j63 => ?_⟩
          refine ⟨b61.2, _, (.keep (.keep (.keep (.keep (.keep (.keep (.keep (.keep (.keep (.keep (.keep (.keep (.keep (.keep (.keep (.keep (.keep (.keep (.keep .nil))))))))))))))))))), rfl, fun l69 c70 => ?_⟩
          refine pak_nil ?_
          refine ⟨_, _, rfl, rfl, fun z71 => ?_⟩
          refine ⟨_, _, _, _, rfl, rfl, rfl, fun z72 => ?_⟩
          refine psk_nil ?_
          exact ⟨(c70, z72), (.keep (.keep (.keep (.keep (.keep (.keep (.keep (.keep (.keep (.keep (.keep (.drop (.keep (.keep (.keep (.keep (.keep (.keep (.keep .nil))))))))))))))))))), rfl⟩
        refine pik_r1 B.range ?_
        refine pak_cons ?_
        refine pek_has h__law_draw hr hg body_passes ?_
        refine pak_cons ?_
        refine pek_ow 0 ?_
        refine pak_cons ?_
        refine pek_int ?_
        refine pak_nil ?_
        refine ⟨(c54, (.int 3)), _, rfl, (show List.Nodup ([0] : List Nat) by decide), rfl, fun b56 => ?_⟩
        refine pak_nil ?_
        refine ⟨_, _, rfl, rfl, fun i57 j58 => ?_⟩
        refine ⟨(b56.2, []), _, (.keep (.keep (.keep (.keep (.keep (.keep (.keep (.keep (.keep (.keep (.keep (.keep (.keep (.keep (.keep (.keep (.keep (.keep (.keep .nil))))))))))))))))))), rfl, fun c73 => ?_⟩
        refine psk_cons ?_
        refine ps1_set 12 ?_ nd
        refine pek_tup ?_
        refine pak_cons ?_
        refine pek_ix ?_
        refine pek_lst ?_
        refine pak_cons ?_
        refine pek_int ?_
        refine pak_cons ?_
        refine pek_int ?_
        refine pak_cons ?_
        refine pek_int ?_
        refine pak_cons ?_
        refine pek_int ?_
        refine pak_nil ?_
        refine ⟨_, rfl, Nat.le_of_ble_eq_true rfl, ?_⟩
        refine pek_has h__law_draw hr hg body_passes ?_
        refine pak_cons ?_
        refine pek_ow 0 ?_
        refine pak_cons ?_
        refine pek_int ?_
        refine pak_nil ?_
        refine ⟨(c73.1, (.int 4)), _, rfl, (show List.Nodup ([0] : List Nat) by decide), rfl, fun b74 => ?_⟩
        refine ⟨_, _, _, rfl, rfl, rfl, fun z75 => ?_⟩
        refine pak_cons ?_
        refine pek_va 9 ?_
        refine pak_cons ?_
        refine pek_ty blt_tuple B.tuple ?_
        refine pak_cons ?_
        refine pek_ow 10 ?_
        refine pak_nil ?_
        refine ⟨_, _, rfl, rfl, fun z76 => ?_⟩
        refine pak_nil ?_
        refine ⟨_, rfl, Nat.le_of_ble_eq_true rfl, ?_⟩
        refine ⟨_, rfl, ?_⟩
        refine psk_cons ?_
        refine ps1_set 13 ?_ nd
        refine pek_ty blt_tuple B.tuple ?_
        refine pak_cons ?_
        refine pek_lcK [("_law_i", 11)] (fun (c80 : List D) => [.ow (some 0) (.ls c80), .ow none (.ls c11.2), .va (.list l10), .ow none (.ls c33.2), .va y38, .no, .ow none (.ls c37.2), .ow none (.ls c43.2), .va y44, .va z55, .ow none (.ls c73.2), .no, .va (.tuple [z75, z55, z76]), .no, .no, .no, .no, .no, .no]) b7__law_any_parts ?_ ?_ (by intro c j hj; simp at hj; subst hj; rfl) nd rfl (show BlkOk N__law_any_parts (defScope s__law_any_parts) _ _ from ⟨rfl, by decide +kernel, by decide +kernel, by decide +kernel, by decide +kernel⟩)
        rotate_left
        · intro s' H' Ca cl fp y81 c80
          refine pgk_name 11 ?_ nd
          intro s2 H2 Ca2 cl2 fp2
          refine pek_ix ?_
          refine pek_lst ?_
          refine pak_cons ?_
          refine pek_int ?_
          refine pak_cons ?_
          refine pek_int ?_
          refine pak_cons ?_
          refine pek_int ?_
          refine pak_cons ?_
          refine pek_int ?_
          refine pak_nil ?_
          refine ⟨_, rfl, Nat.le_of_ble_eq_true rfl, ?_⟩
          refine pek_has h__law_draw hr hg blk_passes ?_
          refine pak_cons ?_
          refine pek_ow 0 ?_
          refine pak_cons ?_
          refine pek_int ?_
          refine pak_nil ?_
          refine ⟨(c80, (.int 4)), _, rfl, (show List.Nodup ([0] : List Nat) by decide), rfl, fun b84 => ?_⟩
          refine ⟨_, _, _, rfl, rfl, rfl, fun z85 => ?_⟩
          exact ⟨_, b84.2, rfl, (.keep (.keep (.keep (.keep (.keep (.keep (.keep (.keep (.keep (.keep (.keep (.drop (.keep (.keep (.keep (.keep (.keep (.keep (.keep .nil))))))))))))))))))), rfl⟩
        refine pik_r1 B.range ?_
        refine pak_cons ?_
        refine pek_has h__law_draw hr hg body_passes ?_
        refine pak_cons ?_
        refine pek_ow 0 ?_
        refine pak_cons ?_
        refine pek_int ?_
        refine pak_nil ?_
        refine ⟨(b74.2, (.int 3)), _, rfl, (show List.Nodup ([0] : List Nat) by decide), rfl, fun b77 => ?_⟩
        refine pak_nil ?_
        refine ⟨_, _, rfl, rfl, fun i78 j79 => ?_⟩
        refine ⟨b77.2, _, (.keep (.keep (.keep (.keep (.keep (.keep (.keep (.keep (.keep (.keep (.keep (.keep (.keep (.keep (.keep (.keep (.keep (.keep (.keep .nil))))))))))))))))))), rfl, fun l86 c87 => ?_⟩
        refine pak_nil ?_
        refine ⟨_, _, rfl, rfl, fun z88 => ?_⟩
        refine ⟨_, rfl, ?_⟩
        refine psk_cons ?_
        refine ps1_append 7 ⟨_, _, rfl, ?_⟩
        refine pek_tup ?_
        refine pak_cons ?_
        refine pek_ix ?_
        refine pek_va 2 ?_
        refine pek_has h__law_draw hr hg body_passes ?_
        refine pak_cons ?_
        refine pek_ow 0 ?_
        refine pak_cons ?_
        refine pek_blt blt_len B.len ?_
        refine pak_cons ?_
        refine pek_va 2 ?_
        refine pak_nil ?_
        refine ⟨_, _, rfl, rfl, fun z89 => ?_⟩
        refine pak_nil ?_
        refine ⟨(c87, z89), _, rfl, (show List.Nodup ([0] : List Nat) by decide), rfl, fun b90 => ?_⟩
        refine ⟨_, _, _, rfl, rfl, rfl, fun z91 => ?_⟩
        refine pak_cons ?_
        refine pek_va 12 ?_
        refine pak_cons ?_
        refine pek_va 13 ?_
        refine pak_nil ?_
        refine ⟨_, rfl, Nat.le_of_ble_eq_true rfl, ?_⟩
        refine ⟨_, _, _, _, rfl, rfl, rfl, fun z92 => ?_⟩
        refine psk_nil ?_
        exact ⟨(b90.2, z92), (.keep (.keep (.keep (.keep (.keep (.keep (.keep (.keep (.drop (.drop (.drop (.keep (.drop (.drop (.keep (.keep (.keep (.keep (.keep .nil))))))))))))))))))), rfl⟩
      refine pik_r1 B.range ?_
      refine pak_cons ?_
      refine pek_bin bin_add ?_
      refine pek_int ?_
      refine pek_has h__law_draw hr hg body_passes ?_
      refine pak_cons ?_
      refine pek_ow 0 ?_
      refine pak_cons ?_
      refine pek_int ?_
      refine pak_nil ?_
      refine ⟨(c37.1, (.int 2)), _, rfl, (show List.Nodup ([0] : List Nat) by decide), rfl, fun b39 => ?_⟩
      refine ⟨_, _, _, rfl, rfl, rfl, fun z40 => ?_⟩
      refine pak_nil ?_
      refine ⟨_, _, rfl, rfl, fun i41 j42 => ?_⟩
      refine ⟨(b39.2, []), _, (.keep (.keep (.keep (.keep (.keep (.keep (.keep (.keep (.keep (.keep (.keep (.keep (.keep (.keep (.keep (.keep (.keep (.keep (.keep .nil))))))))))))))))))), rfl, fun c93 => ?_⟩
      refine psk_cons ?_
      refine ps1_append 6 ⟨_, _, rfl, ?_⟩
      refine pek_tup ?_
      refine pak_cons ?_
      refine pek_cmp (cmp_eq hu) ?_
      refine pek_has h__law_draw hr hg body_passes ?_
      refine pak_cons ?_
      refine pek_ow 0 ?_
      refine pak_cons ?_
      refine pek_int ?_
      refine pak_nil ?_
      refine ⟨(c93.1, (.int 2)), _, rfl, (show List.Nodup ([0] : List Nat) by decide), rfl, fun b94 => ?_⟩
      refine pek_int ?_
      refine AfterC.all rfl rfl rfl fun z95 => ?_
      refine pak_cons ?_
      refine pek_ty blt_tuple B.tuple ?_
      refine pak_cons ?_
      refine pek_ow 7 ?_
      refine pak_nil ?_
      refine ⟨_, _, rfl, rfl, fun z96 => ?_⟩
      refine pak_nil ?_
      refine ⟨_, rfl, Nat.le_of_ble_eq_true rfl, ?_⟩
      refine ⟨_, _, _, _, rfl, rfl, rfl, fun z97 => ?_⟩
      refine psk_nil ?_
      exact ⟨(b94.2, z97), (.keep (.keep (.keep (.keep (.drop (.keep (.keep (.drop (.keep (.keep (.keep (.keep (.keep (.keep (.keep (.keep (.keep (.keep (.keep .nil))))))))))))))))))), rfl⟩
    refine pik_r1 B.range ?_
    refine pak_cons ?_
    refine pek_has h__law_draw hr hg body_passes ?_
    refine pak_cons ?_
    refine pek_ow 0 ?_
    refine pak_cons ?_
    refine pek_int ?_
    refine pak_nil ?_
    refine ⟨(c33.1, (.int 3)), _, rfl, (show List.Nodup ([0] : List Nat) by decide), rfl, fun b34 => ?_⟩
    refine pak_nil ?_
    refine ⟨_, _, rfl, rfl, fun i35 j36 => ?_⟩
    refine ⟨(b34.2, []), _, (.keep (.keep (.keep (.keep (.keep (.keep (.keep (.keep (.keep (.keep (.keep (.keep (.keep (.keep (.keep (.keep (.keep (.keep (.keep .nil))))))))))))))))))), rfl, fun c98 => ?_⟩
    refine psk_cons ?_
    refine ps1_setO 14 ?_ nd
    refine pek_lst ?_
    refine pak_nil ?_
    refine ⟨_, rfl, Nat.le_of_ble_eq_true rfl, ?_⟩
    refine ⟨_, rfl, ?_⟩
    refine psk_cons ?_
    refine ps1_forK [4] (fun (c102 : List D × List D) => [.ow (some 0) (.ls c102.1), .ow none (.ls c11.2), .va (.list l10), .ow none (.ls c33.2), .no, .no, .ow none (.ls c98.2), .no, .no, .no, .no, .no, .no, .no, .ow none (.ls c102.2), .no, .no, .no, .no]) (b10__law_any_parts l10) ?_ ?_ body_own rfl
    rotate_left
    · intro y103 c102
      refine pgk_name 4 ?_ nd
      refine psk_cons ?_
      refine ps1_set 15 ?_ nd
      refine pek_ix ?_
      refine pek_bin bin_add ?_
      refine pek_va 2 ?_
      refine pek_lst ?_
      refine pak_cons ?_
      refine pek_non ?_
      refine pak_cons ?_
      refine pek_non ?_
      refine pak_nil ?_
      refine ⟨_, rfl, Nat.le_of_ble_eq_true rfl, ?_⟩
      refine ⟨_, _, _, rfl, rfl, rfl, fun z104 => ?_⟩
      refine pek_has h__law_draw hr hg body_passes ?_
      refine pak_cons ?_
      refine pek_ow 0 ?_
      refine pak_cons ?_
      refine pek_bin bin_add ?_
      refine pek_blt blt_len B.len ?_
      refine pak_cons ?_
      refine pek_va 2 ?_
      refine pak_nil ?_
      refine ⟨_, _, rfl, rfl, fun z105 => ?_⟩
      refine pek_int ?_
      refine ⟨_, _, _, rfl, rfl, rfl, fun z106 => ?_⟩
      refine pak_nil ?_
      refine ⟨(c102.1, z106), _, rfl, (show List.Nodup ([0] : List Nat) by decide), rfl, fun b107 => ?_⟩
      refine ⟨_, _, _, rfl, rfl, rfl, fun z108 => ?_⟩
      refine ⟨_, rfl, ?_⟩
      refine psk_cons ?_
      refine ps1_set 16 ?_ nd
      refine pek_has h__law_any_argument hr hg body_passes ?_
      refine pak_cons ?_
      refine pek_ow 0 ?_
      refine pak_cons ?_
      refine pek_va 2 ?_
      refine pak_cons ?_
      refine pek_bin bin_add ?_
      refine pek_int ?_
      refine pek_has h__law_draw hr hg body_passes ?_
      refine pak_cons ?_
      refine pek_ow 0 ?_
      refine pak_cons ?_
      refine pek_int ?_
      refine pak_nil ?_
      refine ⟨(b107.2, (.int 4)), _, rfl, (show List.Nodup ([0] : List Nat) by decide), rfl, fun b109 => ?_⟩
      refine ⟨_, _, _, rfl, rfl, rfl, fun z110 => ?_⟩
      refine pak_nil ?_
      refine ⟨(b109.2, (.list l10), z110), _, rfl, (show List.Nodup ([0] : List Nat) by decide), rfl, fun b111 => ?_⟩
      refine ⟨_, rfl, ?_⟩
      refine psk_cons ?_
      refine ps1_append 14 ⟨_, _, rfl, ?_⟩
      refine pek_tup ?_
      refine pak_cons ?_
      refine pek_ix ?_
      refine pek_va 2 ?_
      refine pek_has h__law_draw hr hg body_passes ?_
      refine pak_cons ?_
      refine pek_ow 0 ?_
      refine pak_cons ?_
      refine pek_blt blt_len B.len ?_
      refine pak_cons ?_
      refine pek_va 2 ?_
      refine pak_nil ?_
      refine ⟨_, _, rfl, rfl, fun z112 => ?_⟩
      refine pak_nil ?_
      refine ⟨(b111.2, z112), _, rfl, (show List.Nodup ([0] : List Nat) by decide), rfl, fun b113 => ?_⟩
      refine ⟨_, _, _, rfl, rfl, rfl, fun z114 => ?_⟩
      refine pak_cons ?_
      refine pek_va 15 ?_
      refine pak_cons ?_
      refine pek_va 16 ?_
      refine pak_nil ?_
      refine ⟨_, rfl, Nat.le_of_ble_eq_true rfl, ?_⟩
      refine ⟨_, _, _, _, rfl, rfl, rfl, fun z115 => ?_⟩
      refine psk_nil ?_
      exact ⟨(b113.2, z115), (.keep (.keep (.keep (.keep (.drop (.keep (.keep (.keep (.keep (.keep (.keep (.keep (.keep (.keep (.keep (.drop (.drop (.keep (.keep .nil))))))))))))))))))), rfl⟩
    refine pik_r1 B.range ?_
    refine pak_cons ?_
    refine pek_has h__law_draw hr hg body_passes ?_
    refine pak_cons ?_
    refine pek_ow 0 ?_
    refine pak_cons ?_
    refine pek_int ?_
    refine pak_nil ?_
    refine ⟨(c98.1, (.int 3)), _, rfl, (show List.Nodup ([0] : List Nat) by decide), rfl, fun b99 => ?_⟩
    refine pak_nil ?_
    refine ⟨_, _, rfl, rfl, fun i100 j101 => ?_⟩
    refine ⟨(b99.2, []), _, (.keep (.keep (.keep (.keep (.keep (.keep (.keep (.keep (.keep (.keep (.keep (.keep (.keep (.keep (.keep (.keep (.keep (.keep (.keep .nil))))))))))))))))))), rfl, fun c116 => ?_⟩
    refine psk_cons ?_
    refine ps1_set 17 ?_ nd
    refine pek_ty blt_tuple B.tuple ?_
    refine pak_cons ?_
    refine pek_lcK [("_law_k", 4)] (fun (c120 : List D) => [.ow (some 0) (.ls c120), .ow none (.ls c11.2), .va (.list l10), .ow none (.ls c33.2), .no, .no, .ow none (.ls c98.2), .no, .no, .no, .no, .no, .no, .no, .ow none (.ls c116.2), .no, .no, .no, .no]) (b11__law_any_parts l10) ?_ ?_ (by intro c j hj; simp at hj; subst hj; rfl) nd rfl (show BlkOk N__law_any_parts (defScope s__law_any_parts) _ _ from ⟨rfl, by decide +kernel, by decide +kernel, by decide +kernel, by decide +kernel⟩)
    rotate_left
    · intro s' H' Ca cl fp y121 c120
      refine pgk_name 4 ?_ nd
      intro s2 H2 Ca2 cl2 fp2
      refine pek_ix ?_
      refine pek_va 2 ?_
      refine pek_has h__law_draw hr hg blk_passes ?_
      refine pak_cons ?_
      refine pek_ow 0 ?_
      refine pak_cons ?_
      refine pek_blt blt_len B.len ?_
      refine pak_cons ?_
      refine pek_va 2 ?_
      refine pak_nil ?_
      refine ⟨_, _, rfl, rfl, fun z124 => ?_⟩
      refine pak_nil ?_
      refine ⟨(c120, z124), _, rfl, (show List.Nodup ([0] : List Nat) by decide), rfl, fun b125 => ?_⟩
      refine ⟨_, _, _, rfl, rfl, rfl, fun z126 => ?_⟩
      exact ⟨_, b125.2, rfl, (.keep (.keep (.keep (.keep (.drop (.keep (.keep (.keep (.keep (.keep (.keep (.keep (.keep (.keep (.keep (.keep (.keep (.keep (.keep .nil))))))))))))))))))), rfl⟩
    refine pik_r1 B.range ?_
    refine pak_cons ?_
    refine pek_has h__law_draw hr hg body_passes ?_
    refine pak_cons ?_
    refine pek_ow 0 ?_
    refine pak_cons ?_
    refine pek_int ?_
    refine pak_nil ?_
    refine ⟨(c116.1, (.int 3)), _, rfl, (show List.Nodup ([0] : List Nat) by decide), rfl, fun b117 => ?_⟩
    refine pak_nil ?_
    refine ⟨_, _, rfl, rfl, fun i118 j119 => ?_⟩
    refine ⟨b117.2, _, (.keep (.keep (.keep (.keep (.keep (.keep (.keep (.keep (.keep (.keep (.keep (.keep (.keep (.keep (.keep (.keep (.keep (.keep (.keep .nil))))))))))))))))))), rfl, fun l127 c128 => ?_⟩
    refine pak_nil ?_
    refine ⟨_, _, rfl, rfl, fun z129 => ?_⟩
    refine ⟨_, rfl, ?_⟩
    refine psk_cons (ps1_ret ?_)
    refine pek_tup ?_
    refine pak_cons ?_
    refine pek_ix ?_
    refine pek_va 2 ?_
    refine pek_int ?_
    refine ⟨_, _, _, rfl, rfl, rfl, fun z130 => ?_⟩
    refine pak_cons ?_
    refine pek_va 17 ?_
    refine pak_cons ?_
    refine pek_ty blt_tuple B.tuple ?_
    refine pak_cons ?_
    refine pek_ow 3 ?_
    refine pak_nil ?_
    refine ⟨_, _, rfl, rfl, fun z131 => ?_⟩
    refine pak_cons ?_
    refine pek_ty blt_tuple B.tuple ?_
    refine pak_cons ?_
    refine pek_ow 6 ?_
    refine pak_nil ?_
    refine ⟨_, _, rfl, rfl, fun z132 => ?_⟩
    refine pak_cons ?_
    refine pek_ty blt_tuple B.tuple ?_
    refine pak_cons ?_
    refine pek_ow 14 ?_
    refine pak_nil ?_
    refine ⟨_, _, rfl, rfl, fun z133 => ?_⟩
    refine pak_nil ?_
    refine ⟨_, rfl, Nat.le_of_ble_eq_true rfl, ?_⟩
    refine ⟨_, rfl, ?_⟩
    exact rt_dw rfl rfl
def b1__law_deep (a : D × D) (y5 : D) (c4 : D) : R (Ct (D)) :=
  .ok (.nx (.tuple [a.1, c4]))
def m__law_deep (a : D × D) : R (D) :=
  R.opt (subD a.2 (.int 1)) fun z1 =>
  R.opt2 (rg1 [z1]) fun i2 j3 =>
  R.bind (forL (b1__law_deep a) (rngD i2 j3) (.tuple [a.1])) (nxK fun (c6 : D) =>
  .ok c6)
theorem cov__law_deep : ∀ (a : D × D) (b : D) (j : Nat) (o : Ob), (ea__law_deep a)[j]? = some (.w o) → ∃ o', (j, o') ∈ (erD b).2 := by
  intro a b j o h
  rcases j with _ | _ | j
  · cases h
  · cases h
  · cases h
theorem h__law_deep {k : Nat} (hD : DefAt K mg "_law_deep" s__law_deep P__law_deep) (B : Bl K w mg) : Has P w K mg base (k + 1) "_law_deep" P__law_deep ea__law_deep erD m__law_deep := by
  refine Has.mk' (N := N__law_deep) hD ⟨rfl, rfl, rfl, by decide +kernel, rfl, by decide +kernel, by decide +kernel⟩ (fun _ => rfl) (cov__law_deep) fun f cd A outer s H E W F a hr hg => ?main
  case main =>
    have nd : N__law_deep.Nodup := by decide +kernel
    refine psk_cons ?_
    refine ps1_set 2 ?_ nd
    refine pek_tup ?_
    refine pak_cons ?_
    refine pek_va 0 ?_
    refine pak_nil ?_
    refine ⟨_, rfl, Nat.le_of_ble_eq_true rfl, ?_⟩
    refine ⟨_, rfl, ?_⟩
    refine psk_cons ?_
    refine ps1_forK [3] (fun (c4 : D) => [.va a.1, .va a.2, .va c4, .no]) (b1__law_deep a) ?_ ?_ body_own rfl
    rotate_left
    · intro y5 c4
      refine pgk_name 3 ?_ nd
      refine psk_cons ?_
      refine ps1_set 2 ?_ nd
      refine pek_tup ?_
      refine pak_cons ?_
      refine pek_va 0 ?_
      refine pak_cons ?_
      refine pek_va 2 ?_
      refine pak_nil ?_
      refine ⟨_, rfl, Nat.le_of_ble_eq_true rfl, ?_⟩
      refine ⟨_, rfl, ?_⟩
      refine psk_nil ?_
      exact ⟨(.tuple [a.1, c4]), (.keep (.keep (.keep (.drop .nil)))), rfl⟩
    refine pik_r1 B.range ?_
    refine pak_cons ?_
    refine pek_bin bin_sub ?_
    refine pek_va 1 ?_
    refine pek_int ?_
    refine ⟨_, _, _, rfl, rfl, rfl, fun z1 => ?_⟩
    refine pak_nil ?_
    refine ⟨_, _, rfl, rfl, fun i2 j3 => ?_⟩
    refine ⟨(.tuple [a.1]), _, (.keep (.keep (.keep (.keep .nil)))), rfl, fun c6 => ?_⟩
    refine psk_cons (ps1_ret ?_)
    refine pek_va 2 ?_
    refine ⟨_, rfl, ?_⟩
    exact rt_d rfl
def b1__law_tape  (y3 : D) (c2 : D) : R (Ct (D)) :=
  R.opt (mulD c2 (.int 31)) fun z4 =>
  R.opt (intD [y3]) fun z5 =>
  R.opt (absD [z5]) fun z6 =>
  R.opt (addD z4 z6) fun z7 =>
  R.opt (intD [z7]) fun z8 =>
  R.opt (modD z8 (.int 2147483647)) fun z9 =>
  .ok (.nx z9)
def m__law_tape (a : List D) : R (List D) :=
  R.opt (seqD (.list a)) fun l1 =>
  R.bind (forL b1__law_tape l1 (.int 7)) (nxK fun (c10 : D) =>
  R.opt (listD (.list a)) fun z11 =>
  .ok [(.list z11), (.int 0), (.int 0), c10])
theorem cov__law_tape : ∀ (a : List D) (b : List D) (j : Nat) (o : Ob), (ea__law_tape a)[j]? = some (.w o) → ∃ o', (j, o') ∈ (erO b).2 := by
  intro a b j o h
  rcases j with _ | j
  · cases h
  · cases h
theorem h__law_tape {k : Nat} (hD : DefAt K mg "_law_tape" s__law_tape P__law_tape) (B : Bl K w mg) : Has P w K mg base (k + 1) "_law_tape" P__law_tape ea__law_tape erO m__law_tape := by
  refine Has.mk' (N := N__law_tape) hD ⟨rfl, rfl, rfl, by decide +kernel, rfl, by decide +kernel, by decide +kernel⟩ (fun _ => rfl) (cov__law_tape) fun f cd A outer s H E W F a hr hg => ?main
  case main =>
    have nd : N__law_tape.Nodup := by decide +kernel
    refine psk_cons ?_
    refine ps1_set 1 ?_ nd
    refine pek_int ?_
    refine ⟨_, rfl, ?_⟩
    refine psk_cons ?_
    refine ps1_forK [2] (fun (c2 : D) => [.fz a, .va c2, .no]) b1__law_tape ?_ ?_ body_own rfl
    rotate_left
    · intro y3 c2
      refine pgk_name 2 ?_ nd
      refine psk_cons ?_
      refine ps1_set 1 ?_ nd
      refine pek_bin bin_mod ?_
      refine pek_ty blt_int B.int ?_
      refine pak_cons ?_
      refine pek_bin bin_add ?_
      refine pek_bin bin_mul ?_
      refine pek_va 1 ?_
      refine pek_int ?_
      refine ⟨_, _, _, rfl, rfl, rfl, fun z4 => ?_⟩
      refine pek_blt blt_abs B.abs ?_
      refine pak_cons ?_
      refine pek_ty blt_int B.int ?_
      refine pak_cons ?_
      refine pek_va 2 ?_
      refine pak_nil ?_
      refine ⟨_, _, rfl, rfl, fun z5 => ?_⟩
      refine pak_nil ?_
      refine ⟨_, _, rfl, rfl, fun z6 => ?_⟩
      refine ⟨_, _, _, rfl, rfl, rfl, fun z7 => ?_⟩
      refine pak_nil ?_
      refine ⟨_, _, rfl, rfl, fun z8 => ?_⟩
      refine pek_int ?_
      refine ⟨_, _, _, rfl, rfl, rfl, fun z9 => ?_⟩
      refine ⟨_, rfl, ?_⟩
      refine psk_nil ?_
      exact ⟨z9, (.keep (.keep (.drop .nil))), rfl⟩
    refine pik_seq ?_
    refine pek_fz 0 ?_
    refine ⟨_, _, rfl, rfl, fun l1 => ?_⟩
    refine ⟨(.int 7), _, (.keep (.keep (.keep .nil))), rfl, fun c10 => ?_⟩
    refine psk_cons (ps1_retO ?_)
    refine pek_lst ?_
    refine pak_cons ?_
    refine pek_frz ?_
    refine pek_list B.list ?_
    refine pak_cons ?_
    refine pek_fz 0 ?_
    refine pak_nil ?_
    refine ⟨_, _, rfl, rfl, fun z11 => ?_⟩
    refine ⟨_, rfl, ?_⟩
    refine pak_cons ?_
    refine pek_int ?_
    refine pak_cons ?_
    refine pek_int ?_
    refine pak_cons ?_
    refine pek_va 1 ?_
    refine pak_nil ?_
    refine ⟨_, rfl, Nat.le_of_ble_eq_true rfl, ?_⟩
    refine ⟨_, rfl, ?_⟩
    exact rt_o rfl
def m__law_alike (a : D × D) : R (Bool) :=
  R.bif (R.opt (some (isTupD a.2)) fun z1 =>
  R.ite (truD (.bool z1)) (
  R.opt (some (isTupD a.1)) fun z2 =>
  R.ite (truD (.bool z2)) (
  .ok false) (
  .ok true)) (
  .ok false)) (
  .ok false) (
  R.bif (R.opt (some (isIntD a.2)) fun z3 =>
  R.ite (truD (.bool z3)) (
  R.opt (some (isIntD a.1)) fun z4 =>
  R.ite (truD (.bool z4)) (
  .ok false) (
  .ok true)) (
  .ok false)) (
  .ok false) (
  R.opt (eqD a.1 a.2) fun z5 =>
  bif z5 then (
  R.opt (reprD [a.1]) fun z6 =>
  R.opt (reprD [a.2]) fun z7 =>
  R.opt (eqD z6 z7) fun z8 =>
  .ok z8) else (
  .ok false)))
theorem cov__law_alike : ∀ (a : D × D) (b : Bool) (j : Nat) (o : Ob), (ea__law_alike a)[j]? = some (.w o) → ∃ o', (j, o') ∈ (erB b).2 := by
  intro a b j o h
  rcases j with _ | _ | j
  · cases h
  · cases h
  · cases h
theorem h__law_alike {k : Nat} (hk : 7 ≤ k) (hD : DefAt K mg "_law_alike" s__law_alike P__law_alike) (B : Bl K w mg) : Has P w K mg base (k + 1) "_law_alike" P__law_alike ea__law_alike erB m__law_alike := by
  refine Has.mk' (N := N__law_alike) hD ⟨rfl, rfl, rfl, by decide +kernel, rfl, by decide +kernel, by decide +kernel⟩ (fun _ => rfl) (cov__law_alike) fun f cd A outer s H E W F a hr hg => ?main
  case main =>
    have nd : N__law_alike.Nodup := by decide +kernel
    have hu := room_eq hr hk
    have hu2 := room_repr hr hk
    refine psk_cons ?_
    refine ps1_if ?_
    refine ptk_joinB rfl ?_ ?_ ?_
    · refine ptk_pw ?_
      refine pwk_and ?_
      refine ptk_tru ?_
      refine pek_isi is_tup B.isinstance B.tuple ?_
      refine pek_va 1 ?_
      refine AfterN.opt rfl rfl fun z1 => ?_
      refine AfterT.ite rfl rfl ?_ ?_
      · refine pwk_and1 ?_
        refine ptk_not ?_
        refine ptk_tru ?_
        refine pek_isi is_tup B.isinstance B.tuple ?_
        refine pek_va 0 ?_
        refine AfterN.opt rfl rfl fun z2 => ?_
        refine AfterT.ite rfl rfl ?_ ?_
        · exact ⟨rfl, rfl⟩
        · exact ⟨rfl, rfl⟩
      · exact ⟨rfl, rfl⟩
    · refine psk_cons (ps1_ret ?_)
      refine pek_bl ?_
      refine ⟨_, rfl, ?_⟩
      exact rt_b rfl
    · refine psk_nil ?_
      refine psk_cons ?_
      refine ps1_if ?_
      refine ptk_joinB rfl ?_ ?_ ?_
      · refine ptk_pw ?_
        refine pwk_and ?_
        refine ptk_tru ?_
        refine pek_isi is_int B.isinstance B.int ?_
        refine pek_va 1 ?_
        refine AfterN.opt rfl rfl fun z3 => ?_
        refine AfterT.ite rfl rfl ?_ ?_
        · refine pwk_and1 ?_
          refine ptk_not ?_
          refine ptk_tru ?_
          refine pek_isi is_int B.isinstance B.int ?_
          refine pek_va 0 ?_
          refine AfterN.opt rfl rfl fun z4 => ?_
          refine AfterT.ite rfl rfl ?_ ?_
          · exact ⟨rfl, rfl⟩
          · exact ⟨rfl, rfl⟩
        · exact ⟨rfl, rfl⟩
      · refine psk_cons (ps1_ret ?_)
        refine pek_bl ?_
        refine ⟨_, rfl, ?_⟩
        exact rt_b rfl
      · refine psk_nil ?_
        refine psk_cons (ps1_ret ?_)
        refine pek_and ?_
        refine pek_cmp (cmp_eq hu) ?_
        refine pek_va 0 ?_
        refine pek_va 1 ?_
        refine AfterC.all rfl rfl rfl fun z5 => ?_
        refine ⟨_, rfl, ?_⟩
        cases z5
        · refine ⟨_, rfl, ?_⟩
          exact rt_b rfl
        · refine pek_tt ?_
          refine pek_one ?_
          refine pek_cmp (cmp_eq hu) ?_
          refine pek_blt (blt_repr hg hu2) B.repr ?_
          refine pak_cons ?_
          refine pek_va 0 ?_
          refine pak_nil ?_
          refine ⟨_, _, rfl, rfl, fun z6 => ?_⟩
          refine pek_blt (blt_repr hg hu2) B.repr ?_
          refine pak_cons ?_
          refine pek_va 1 ?_
          refine pak_nil ?_
          refine ⟨_, _, rfl, rfl, fun z7 => ?_⟩
          refine AfterC.all rfl rfl rfl fun z8 => ?_
          refine ⟨_, rfl, ?_⟩
          exact rt_b rfl
def b1_law  (y10 : D) (c9 : D) : R (Ct (D)) :=
  .ok (.nx (.tuple [(.tuple [(.str "invert"), y10]), (.tuple [(.tuple [(.str ""), c9])])]))
def m_law (a : List D) : R (Bool) :=
  R.bind (m__law_tape a) fun b1 =>
  R.bind (m__law_any_parts b1) fun b2 =>
  R.bind (R.bind (m__law_draw (b2.2, (.int 6))) fun b4 =>
  R.ite (eqD b4.1 (.int 0)) (
  R.opt (ixD b2.1 (.int 0)) fun z5 =>
  R.bind (m__law_deep (z5, (.int 20))) fun b6 =>
  R.opt2 (rg1 [(.int 59)]) fun i7 j8 =>
  R.bind (forL b1_law (rngD i7 j8) (.tuple [(.tuple [(.str "done"), (.int 0), (.tuple [b6])]), (.tuple [])])) (nxK fun (c11 : D) =>
  R.opt (ixD b2.1 (.int 0)) fun z12 =>
  R.opt (ixD b2.1 (.int 0)) fun z13 =>
  R.bind (m__law_deep (z13, (.int 19))) fun b14 =>
  R.opt (ixD b2.1 (.int 0)) fun z15 =>
  R.bind (m__law_deep (z15, (.int 20))) fun b16 =>
  R.opt (asInt (.int 2)) fun z17 =>
  R.opt (slD b2.1 none (some z17)) fun z18 =>
  R.opt (ixD b2.1 (.int 2)) fun z19 =>
  R.opt (addD z19 (.tuple [(.tuple [z12, (.tuple [(.tuple [(.str "="), b14, (.int 0)])]), b16])])) fun z20 =>
  R.opt (ixD b2.1 (.int 3)) fun z21 =>
  R.opt (ixD b2.1 (.int 4)) fun z22 =>
  R.opt (ixD b2.1 (.int 0)) fun z23 =>
  R.opt (addD z22 (.tuple [(.tuple [z23, .none, c11])])) fun z24 =>
  R.opt (addD z18 (.tuple [z20, z21, z24])) fun z25 =>
  .ok (.nx (b4.2, z25)))) (
  .ok (.nx (b4.2, b2.1)))) (nxK fun (c3 : List D × D) =>
  R.bind (m__law_written c3.2) fun b26 =>
  R.opt (tupleD [b26]) fun z27 =>
  R.bind (m_numbers_of c3.2) fun b28 =>
  R.bind (m__law_alike (b28, z27)) fun b29 =>
  bif b29 then (
  R.bind (m_parts_of z27) fun b30 =>
  R.bind (m__law_alike (b30, c3.2)) fun b31 =>
  .ok b31) else (
  .ok false))
theorem cov_law : ∀ (a : List D) (b : Bool) (j : Nat) (o : Ob), (ea_law a)[j]? = some (.w o) → ∃ o', (j, o') ∈ (erB b).2 := by
  intro a b j o h
  rcases j with _ | j
  · cases h
  · cases h
theorem h_law {k : Nat} (hk : 7 ≤ k) (hD : DefAt K mg "law" s_law P_law) (B : Bl K w mg) (h__law_tape : Has P w K mg base k "_law_tape" P__law_tape ea__law_tape erO m__law_tape) (h__law_any_parts : Has P w K mg base k "_law_any_parts" P__law_any_parts ea__law_any_parts (erDW 0) m__law_any_parts) (h__law_draw : Has P w K mg base k "_law_draw" P__law_draw ea__law_draw (erDW 0) m__law_draw) (h__law_deep : Has P w K mg base k "_law_deep" P__law_deep ea__law_deep erD m__law_deep) (h__law_written : Has P w K mg base k "_law_written" P__law_written ea__law_written erD m__law_written) (h__law_alike : Has P w K mg base k "_law_alike" P__law_alike ea__law_alike erB m__law_alike) (h_numbers_of : Has P w K mg base k "numbers_of" P_numbers_of ea_numbers_of erD m_numbers_of) (h_parts_of : Has P w K mg base k "parts_of" P_parts_of ea_parts_of erD m_parts_of) : Has P w K mg base (k + 1) "law" P_law ea_law erB m_law := by
  refine Has.mk' (N := N_law) hD ⟨rfl, rfl, rfl, by decide +kernel, rfl, by decide +kernel, by decide +kernel⟩ (fun _ => rfl) (cov_law) fun f cd A outer s H E W F a hr hg => ?main
  case main =>
    have nd : N_law.Nodup := by decide +kernel
    have hu := room_eq hr hk
    refine psk_cons ?_
    refine ps1_setO 1 ?_ nd
    refine pek_has h__law_tape hr hg body_passes ?_
    refine pak_cons ?_
    refine pek_fz 0 ?_
    refine pak_nil ?_
    refine ⟨a, _, rfl, (show List.Nodup ([] : List Nat) by decide), rfl, fun b1 => ?_⟩
    refine ⟨_, rfl, ?_⟩
    refine psk_cons ?_
    refine ps1_set 2 ?_ nd
    refine pek_has h__law_any_parts hr hg body_passes ?_
    refine pak_cons ?_
    refine pek_ow 1 ?_
    refine pak_nil ?_
    refine ⟨b1, _, rfl, (show List.Nodup ([1] : List Nat) by decide), rfl, fun b2 => ?_⟩
    refine ⟨_, rfl, ?_⟩
    refine psk_cons ?_
    refine ps1_joinK (fun (c3 : List D × D) => [.fz a, .ow none (.ls c3.1), .va c3.2, .no, .no, .no, .no]) rfl ?_ (fun c3 => ?_)
    · refine ps1_if ?_
      refine ptk_cmp (cmp_eq hu) ?_
      refine pek_has h__law_draw hr hg body_passes ?_
      refine pak_cons ?_
      refine pek_ow 1 ?_
      refine pak_cons ?_
      refine pek_int ?_
      refine pak_nil ?_
      refine ⟨(b2.2, (.int 6)), _, rfl, (show List.Nodup ([1] : List Nat) by decide), rfl, fun b4 => ?_⟩
      refine pek_int ?_
      refine AfterC.ite rfl rfl rfl ?_ ?_
      · refine psk_cons ?_
        refine ps1_set 3 ?_ nd
        refine pek_tup ?_
        refine pak_cons ?_
        refine pek_tup ?_
        refine pak_cons ?_
        refine pek_str ?_
        refine pak_cons ?_
        refine pek_int ?_
        refine pak_cons ?_
        refine pek_tup ?_
        refine pak_cons ?_
        refine pek_has h__law_deep hr hg body_passes ?_
        refine pak_cons ?_
        refine pek_ix ?_
        refine pek_va 2 ?_
        refine pek_int ?_
        refine ⟨_, _, _, rfl, rfl, rfl, fun z5 => ?_⟩
        refine pak_cons ?_
        refine pek_int ?_
        refine pak_nil ?_
        refine ⟨(z5, (.int 20)), _, rfl, (show List.Nodup ([] : List Nat) by decide), rfl, fun b6 => ?_⟩
        refine pak_nil ?_
        refine ⟨_, rfl, Nat.le_of_ble_eq_true rfl, ?_⟩
        refine pak_nil ?_
        refine ⟨_, rfl, Nat.le_of_ble_eq_true rfl, ?_⟩
        refine pak_cons ?_
        refine pek_tup ?_
        refine pak_nil ?_
        refine ⟨_, rfl, Nat.le_of_ble_eq_true rfl, ?_⟩
        refine pak_nil ?_
        refine ⟨_, rfl, Nat.le_of_ble_eq_true rfl, ?_⟩
        refine ⟨_, rfl, ?_⟩
        refine psk_cons ?_
        refine ps1_forK [4] (fun (c9 : D) => [.fz a, .ow none (.ls b4.2), .va b2.1, .va c9, .no, .no, .no]) b1_law ?_ ?_ body_own rfl
        rotate_left
        · intro y10 c9
          refine pgk_name 4 ?_ nd
          refine psk_cons ?_
          refine ps1_set 3 ?_ nd
          refine pek_tup ?_
          refine pak_cons ?_
          refine pek_tup ?_
          refine pak_cons ?_
          refine pek_str ?_
          refine pak_cons ?_
          refine pek_va 4 ?_
          refine pak_nil ?_
          refine ⟨_, rfl, Nat.le_of_ble_eq_true rfl, ?_⟩
          refine pak_cons ?_
          refine pek_tup ?_
          refine pak_cons ?_
          refine pek_tup ?_
          refine pak_cons ?_
          refine pek_str ?_
          refine pak_cons ?_
          refine pek_va 3 ?_
          refine pak_nil ?_
          refine ⟨_, rfl, Nat.le_of_ble_eq_true rfl, ?_⟩
          refine pak_nil ?_
          refine ⟨_, rfl, Nat.le_of_ble_eq_true rfl, ?_⟩
          refine pak_nil ?_
          refine ⟨_, rfl, Nat.le_of_ble_eq_true rfl, ?_⟩
          refine ⟨_, rfl, ?_⟩
          refine psk_nil ?_
          exact ⟨(.tuple [(.tuple [(.str "invert"), y10]), (.tuple [(.tuple [(.str ""), c9])])]), (.keep (.keep (.keep (.keep (.drop (.keep (.keep .nil))))))), rfl⟩
        refine pik_r1 B.range ?_
        refine pak_cons ?_
        refine pek_int ?_
        refine pak_nil ?_
        refine ⟨_, _, rfl, rfl, fun i7 j8 => ?_⟩
        refine ⟨(.tuple [(.tuple [(.str "done"), (.int 0), (.tuple [b6])]), (.tuple [])]), _, (.keep (.keep (.keep (.keep (.keep (.keep (.keep .nil))))))), rfl, fun c11 => ?_⟩
        refine psk_cons ?_
        refine ps1_set 5 ?_ nd
        refine pek_tup ?_
        refine pak_cons ?_
        refine pek_ix ?_
        refine pek_va 2 ?_
        refine pek_int ?_
        refine ⟨_, _, _, rfl, rfl, rfl, fun z12 => ?_⟩
        refine pak_cons ?_
        refine pek_tup ?_
        refine pak_cons ?_
        refine pek_tup ?_
        refine pak_cons ?_
        refine pek_str ?_
        refine pak_cons ?_
        refine pek_has h__law_deep hr hg body_passes ?_
        refine pak_cons ?_
        refine pek_ix ?_
        refine pek_va 2 ?_
        refine pek_int ?_
        refine ⟨_, _, _, rfl, rfl, rfl, fun z13 => ?_⟩
        refine pak_cons ?_
        refine pek_int ?_
        refine pak_nil ?_
        refine ⟨(z13, (.int 19)), _, rfl, (show List.Nodup ([] : List Nat) by decide), rfl, fun b14 => ?_⟩
        refine pak_cons ?_
        refine pek_int ?_
        refine pak_nil ?_
        refine ⟨_, rfl, Nat.le_of_ble_eq_true rfl, ?_⟩
        refine pak_nil ?_
        refine ⟨_, rfl, Nat.le_of_ble_eq_true rfl, ?_⟩
        refine pak_cons ?_
        refine pek_has h__law_deep hr hg body_passes ?_
        refine pak_cons ?_
        refine pek_ix ?_
        refine pek_va 2 ?_
        refine pek_int ?_
        refine ⟨_, _, _, rfl, rfl, rfl, fun z15 => ?_⟩
        refine pak_cons ?_
        refine pek_int ?_
        refine pak_nil ?_
        refine ⟨(z15, (.int 20)), _, rfl, (show List.Nodup ([] : List Nat) by decide), rfl, fun b16 => ?_⟩
        refine pak_nil ?_
        refine ⟨_, rfl, Nat.le_of_ble_eq_true rfl, ?_⟩
        refine ⟨_, rfl, ?_⟩
        refine psk_cons ?_
        refine ps1_set 2 ?_ nd
        refine pek_bin bin_add ?_
        refine pek_sl ?_
        refine pek_va 2 ?_
        refine pok_none ?_
        refine pok_s ?_
        refine pek_int ?_
        refine ⟨_, _, rfl, rfl, fun z17 => ?_⟩
        refine ⟨_, _, rfl, rfl, fun z18 => ?_⟩
        refine pek_tup ?_
        refine pak_cons ?_
        refine pek_bin bin_add ?_
        refine pek_ix ?_
        refine pek_va 2 ?_
        refine pek_int ?_
        refine ⟨_, _, _, rfl, rfl, rfl, fun z19 => ?_⟩
        refine pek_tup ?_
        refine pak_cons ?_
        refine pek_va 5 ?_
        refine pak_nil ?_
        refine ⟨_, rfl, Nat.le_of_ble_eq_true rfl, ?_⟩
        refine ⟨_, _, _, rfl, rfl, rfl, fun z20 => ?_⟩
        refine pak_cons ?_
        refine pek_ix ?_
        refine pek_va 2 ?_
        refine pek_int ?_
        refine ⟨_, _, _, rfl, rfl, rfl, fun z21 => ?_⟩
        refine pak_cons ?_
        refine pek_bin bin_add ?_
        refine pek_ix ?_
        refine pek_va 2 ?_
        refine pek_int ?_
        refine ⟨_, _, _, rfl, rfl, rfl, fun z22 => ?_⟩
        refine pek_tup ?_
        refine pak_cons ?_
        refine pek_tup ?_
        refine pak_cons ?_
        refine pek_ix ?_
        refine pek_va 2 ?_
        refine pek_int ?_
        refine ⟨_, _, _, rfl, rfl, rfl, fun z23 => ?_⟩
        refine pak_cons ?_
        refine pek_non ?_
        refine pak_cons ?_
        refine pek_va 3 ?_
        refine pak_nil ?_
        refine ⟨_, rfl, Nat.le_of_ble_eq_true rfl, ?_⟩
        refine pak_nil ?_
        refine ⟨_, rfl, Nat.le_of_ble_eq_true rfl, ?_⟩
        refine ⟨_, _, _, rfl, rfl, rfl, fun z24 => ?_⟩
        refine pak_nil ?_
        refine ⟨_, rfl, Nat.le_of_ble_eq_true rfl, ?_⟩
        refine ⟨_, _, _, rfl, rfl, rfl, fun z25 => ?_⟩
        refine ⟨_, rfl, ?_⟩
        refine psk_nil ?_
        exact ⟨(b4.2, z25), (.keep (.keep (.keep (.drop (.keep (.drop (.keep .nil))))))), rfl⟩
      · refine psk_nil ?_
        exact ⟨(b4.2, b2.1), (.keep (.keep (.keep (.keep (.keep (.keep (.keep .nil))))))), rfl⟩
    refine psk_cons ?_
    refine ps1_set 6 ?_ nd
    refine pek_ty blt_tuple B.tuple ?_
    refine pak_cons ?_
    refine pek_has h__law_written hr hg body_passes ?_
    refine pak_cons ?_
    refine pek_va 2 ?_
    refine pak_nil ?_
    refine ⟨c3.2, _, rfl, (show List.Nodup ([] : List Nat) by decide), rfl, fun b26 => ?_⟩
    refine pak_nil ?_
    refine ⟨_, _, rfl, rfl, fun z27 => ?_⟩
    refine ⟨_, rfl, ?_⟩
    refine psk_cons (ps1_ret ?_)
    refine pek_and ?_
    refine pek_has h__law_alike hr hg body_passes ?_
    refine pak_cons ?_
    refine pek_has h_numbers_of hr hg body_passes ?_
    refine pak_cons ?_
    refine pek_va 2 ?_
    refine pak_nil ?_
    refine ⟨c3.2, _, rfl, (show List.Nodup ([] : List Nat) by decide), rfl, fun b28 => ?_⟩
    refine pak_cons ?_
    refine pek_va 6 ?_
    refine pak_nil ?_
    refine ⟨(b28, z27), _, rfl, (show List.Nodup ([] : List Nat) by decide), rfl, fun b29 => ?_⟩
    refine ⟨_, rfl, ?_⟩
    cases b29
    · refine ⟨_, rfl, ?_⟩
      exact rt_b rfl
    · refine pek_tt ?_
      refine pek_one ?_
      refine pek_has h__law_alike hr hg body_passes ?_
      refine pak_cons ?_
      refine pek_has h_parts_of hr hg body_passes ?_
      refine pak_cons ?_
      refine pek_va 6 ?_
      refine pak_nil ?_
      refine ⟨z27, _, rfl, (show List.Nodup ([] : List Nat) by decide), rfl, fun b30 => ?_⟩
      refine pak_cons ?_
      refine pek_va 2 ?_
      refine pak_nil ?_
      refine ⟨(b30, c3.2), _, rfl, (show List.Nodup ([] : List Nat) by decide), rfl, fun b31 => ?_⟩
      refine ⟨_, rfl, ?_⟩
      exact rt_b rfl
end
end MX

set_option Elab.async false
set_option linter.all false
set_option maxRecDepth 100000
namespace MX
open PySem PySem.Spec PyProof.Rows L2

/-! ### names -/
def AlN (c : Nat) : Prop := (97 ≤ c ∧ c ≤ 122) ∨ (65 ≤ c ∧ c ≤ 90) ∨ (48 ≤ c ∧ c ≤ 57)
structure NameOk (x : Str) : Prop where
  ne : 1 ≤ x.length
  le : x.length ≤ 16
  hd : ∀ c, x.cps.toList[0]? = some c → 97 ≤ c ∧ c ≤ 122
  al : ∀ c ∈ x.cps.toList, AlN c
def codes (l : List Nat) : List Int := l.map fun (c : Nat) => (c : Int)
def strC (x : Str) : List Int := (x.length : Int) :: codes x.cps.toList
theorem codes_len (l : List Nat) : (codes l).length = l.length := List.length_map _
theorem slen (x : Str) : x.cps.toList.length = x.length := by rw [Array.length_toList]; rfl
theorem strC_len (x : Str) : (strC x).length = x.length + 1 := by unfold strC; rw [List.length_cons, codes_len, slen]
theorem signs_map (x : Str) : signsD x = x.cps.toList.map fun c => .str ⟨#[c]⟩ := rfl
theorem ord_sign (c : Nat) : ordD [.str ⟨#[c]⟩] = some (.int c) := by
  have e : (Str.length ⟨#[c]⟩ : Nat) = 1 := rfl
  unfold ordD
  simp only [e, if_true]
  rfl
theorem lc_ord {B : D → Unit → R (D × Unit)} (hB : ∀ c : Nat, B (.str ⟨#[c]⟩) () = .ok (.int c, ())) : ∀ (l : List Nat) (acc : List D), acc.length + l.length ≤ sizeLine → lcL B (l.map fun c => .str ⟨#[c]⟩) () acc = .ok (acc ++ I (codes l), ())
  | [], acc, _ => by simp [lcL, I, codes]
  | c :: l, acc, h => by
    rw [List.length_cons] at h
    show R.bind (noX (B (.str ⟨#[c]⟩) ())) _ = _
    rw [hB c]
    show (if acc.length < sizeLine then lcL B (l.map fun c => .str ⟨#[c]⟩) () (acc ++ [.int c]) else .stuck) = _
    rw [if_pos (by omega)]
    refine (lc_ord hB l (acc ++ [.int c]) (by rw [List.length_append, List.length_singleton]; omega)).trans ?_
    rw [List.append_assoc]
    rfl
theorem w_name {x : Str} {f : List D} (hx : x.length ≤ 1000) (h : f.length + (strC x).length ≤ sizeLine) : m_write_name (.str x, f) = .ok (f ++ I (strC x)) := by
  rw [strC_len] at h
  have hz : x.length ≤ sizeLine := by omega
  unfold m_write_name
  simp only [len_s hz, opt_some]
  rw [ap_ok (by omega), opt_some, show seqD (.str x) = some (signsD x) from rfl, opt_some, signs_map]
  rw [lc_ord (fun c => by unfold b1_write_name; rw [ord_sign]; rfl) x.cps.toList [] (by rw [slen]; simpa using hz), bind2_ok]
  rw [ex_l (by simp only [List.nil_append, List.length_append, I_len, codes_len, slen, List.length_singleton]; omega), opt_some, List.nil_append, List.append_assoc]
  rfl
theorem l_name {x : Str} (hx : x.length ≤ 1000) : m__law_written_name (.str x) = .ok (.list (I (strC x))) := by
  have hb := big
  have hz : x.length ≤ sizeLine := by omega
  unfold m__law_written_name
  rw [len_s hz, opt_some, show seqD (.str x) = some (signsD x) from rfl, opt_some, signs_map]
  rw [lc_ord (fun c => by unfold b1__law_written_name; rw [ord_sign]; rfl) x.cps.toList [] (by rw [slen]; simpa using hz), bind2_ok]
  rw [add_l (by simp only [List.nil_append, I_len, codes_len, slen, List.length_singleton]; omega), opt_some, List.nil_append]
  rfl
theorem add_1 {p : Nat} : addD (.int p) (.int 1) = some (.int ((p + 1 : Nat) : Int)) := rfl
theorem add_2 {p : Nat} : addD (.int p) (.int 2) = some (.int ((p + 2 : Nat) : Int)) := rfl
theorem add_3 {p : Nat} : addD (.int p) (.int 3) = some (.int ((p + 3 : Nat) : Int)) := rfl
theorem add_n {p k : Nat} : addD (.int p) (.int k) = some (.int ((p + k : Nat) : Int)) := rfl
/-! ### reading one number, one sign, a name -/
theorem I_get {ns : List Int} {p : Nat} {c : Int} (h : ns[p]? = some c) : (I ns)[p]? = some (.int c) := by
  unfold I
  rw [List.getElem?_map, h]
  rfl
theorem r_num {ns : List Int} {p : Nat} {c lo hi : Int} (h : ns[p]? = some c) (h1 : lo ≤ c) (h2 : c ≤ hi) : m_number_at (T ns, .int p, .int lo, .int hi) = .ok (.int c) := by
  have hp : p < ns.length := (List.getElem?_eq_some_iff.mp h).1
  have hi' := I_get h
  unfold m_number_at
  simp only [T]
  rw [len_t, opt_some, I_len]
  rw [show geD (.int p) (.int ns.length) = some false from by simp only [geD]; congr 1; simp; omega, ite_f]
  rw [ix_t hi', opt_some, show leD (.int lo) (.int c) = some true from by simp only [leD]; congr 1; simpa using h1, ite_t]
  rw [show leD (.int c) (.int hi) = some true from by simp only [leD]; congr 1; simpa using h2, ite_t, bif_f, opt_some]
theorem ltr (s : String) (k m : Nat) (e : (Str.ofString s).cps.toList = (List.range m).map (k + ·)) (hm : m ≤ 100) {c : Nat} (h : c < m) : ixD (.str (Str.ofString s)) (.int (c : Nat)) = some (.str ⟨#[k + c]⟩) := by
  have hb := big
  refine ix_s ?_ ?_
  · rw [← slen, e, List.length_map, List.length_range]; omega
  · rw [e, List.getElem?_map, List.getElem?_range h]; rfl
theorem r_small {c : Nat} (h : 97 ≤ c ∧ c ≤ 122) : ixD cSMALL (.int ((c : Int) - 97)) = some (.str ⟨#[c]⟩) := by
  have e := ltr "abcdefghijklmnopqrstuvwxyz" 97 26 (by decide +kernel) (by decide) (c := c - 97) (by omega)
  rw [show ((c - 97 : Nat) : Int) = (c : Int) - 97 by omega, show 97 + (c - 97) = c by omega] at e
  exact e
theorem r_great {c : Nat} (h : 65 ≤ c ∧ c ≤ 90) : ixD cGREAT (.int ((c : Int) - 65)) = some (.str ⟨#[c]⟩) := by
  have e := ltr "ABCDEFGHIJKLMNOPQRSTUVWXYZ" 65 26 (by decide +kernel) (by decide) (c := c - 65) (by omega)
  rw [show ((c - 65 : Nat) : Int) = (c : Int) - 65 by omega, show 65 + (c - 65) = c by omega] at e
  exact e
theorem r_digit {c : Nat} (h : 48 ≤ c ∧ c ≤ 57) : ixD cDIGITS (.int ((c : Int) - 48)) = some (.str ⟨#[c]⟩) := by
  have e := ltr "0123456789" 48 10 (by decide +kernel) (by decide) (c := c - 48) (by omega)
  rw [show ((c - 48 : Nat) : Int) = (c : Int) - 48 by omega, show 48 + (c - 48) = c by omega] at e
  exact e
theorem le_dec {a b : Int} : leD (.int a) (.int b) = some (decide (a ≤ b)) := rfl
theorem lt_dec {a b : Int} : ltD (.int a) (.int b) = some (decide (a < b)) := rfl
theorem gt_dec {a b : Int} : gtD (.int a) (.int b) = some (decide (b < a)) := rfl
theorem two_in {β : Type} {a b c : Int} {x y : R β} (h : a ≤ b ∧ b ≤ c) : R.bif (R.ite (leD (.int a) (.int b)) (R.ite (leD (.int b) (.int c)) (.ok true) (.ok false)) (.ok false)) x y = x := by
  rw [le_dec, le_dec, decide_eq_true h.1, decide_eq_true h.2, ite_t, ite_t, bif_t]
theorem two_out {β : Type} {a b c : Int} {x y : R β} (h : ¬ (a ≤ b ∧ b ≤ c)) : R.bif (R.ite (leD (.int a) (.int b)) (R.ite (leD (.int b) (.int c)) (.ok true) (.ok false)) (.ok false)) x y = y := by
  rw [le_dec, le_dec]
  by_cases h1 : a ≤ b
  · rw [decide_eq_true h1, decide_eq_false (fun h2 => h ⟨h1, h2⟩), ite_t, ite_f, bif_f]
  · rw [decide_eq_false h1, ite_f, bif_f]
theorem r_sign {ns : List Int} {p c : Nat} (h : ns[p]? = some (c : Int)) (ha : AlN c) : m_sign_at (T ns, .int p) = .ok (.str ⟨#[c]⟩) := by
  unfold m_sign_at
  rw [r_num h (by omega) (by unfold AlN at ha; omega), bind_ok]
  rcases ha with ha | ha | ha
  · rw [two_in (by omega), sub_i, opt_some, r_small ha, opt_some]
  · rw [two_out (by omega), two_in (by omega), sub_i, opt_some, r_great ha, opt_some]
  · rw [two_out (by omega), two_out (by omega), two_in (by omega), sub_i, opt_some, r_digit ha, opt_some]
theorem rng_nil {i j : Int} (h : j ≤ i) : rngD i j = [] := by unfold rngD; rw [show (j - i).toNat = 0 by omega]; rfl
theorem rng_cons {i j : Int} (h : i < j) : rngD i j = .int i :: rngD (i + 1) j := by
  unfold rngD
  rw [show (j - i).toNat = (j - (i + 1)).toNat + 1 by omega, List.range_succ_eq_map, List.map_cons, List.map_map]
  congr 1
  · simp
  · refine List.map_congr_left fun n _ => ?_
    simp only [Function.comp]
    congr 1
    omega
theorem for_name {ns : List Int} {a : D × D} (ha : a.1 = T ns) : ∀ (l : List Nat) (p : Nat) (acc : Str), (∀ c ∈ l, AlN c) → Rd ns p (codes l) → acc.length + l.length ≤ 1000 → ∀ j : Int, j = p + l.length → forL (b1_read_name a) (rngD p j) (.str acc) = .ok (.nx (.str ⟨(acc.cps.toList ++ l).toArray⟩))
  | [], p, acc, _, _, _, j, hj => by
    rw [rng_nil (by simp at hj; omega)]
    show R.ok (Ct.nx (PyData.str acc)) = _
    simp
  | c :: l, p, acc, hl, hr, hs, j, hj => by
    have hb := big
    rw [List.length_cons] at hj hs
    rw [rng_cons (by omega)]
    have eB : b1_read_name a (.int p) (.str acc) = .ok (.nx (.str (acc ++ ⟨#[c]⟩))) := by
      unfold b1_read_name
      rw [ha, r_sign (c := c) (Rd.hd hr) (hl c (List.Mem.head _)), bind_ok, add_s (by show acc.length + 1 ≤ _; omega), opt_some]
    show R.bind (b1_read_name a (.int p) (.str acc)) _ = _
    rw [eB]
    show forL (b1_read_name a) (rngD (p + 1) j) (.str (acc ++ ⟨#[c]⟩)) = _
    have := for_name ha l (p + 1) (acc ++ ⟨#[c]⟩) (fun d hd => hl d (List.Mem.tail _ hd)) (Rd.tl hr) (by rw [strLen_append]; show acc.length + 1 + l.length ≤ _; omega) j (by omega)
    rw [show ((p + 1 : Nat) : Int) = (p : Int) + 1 by omega] at this
    refine this.trans ?_
    rw [PySem.Str.cps_append, Array.toList_append, List.append_assoc]
    rfl
theorem r_name {ns : List Int} {p : Nat} {x : Str} (hn : ns.length ≤ sizeLine) (hx : NameOk x) (hr : Rd ns p (strC x)) : m_read_name (T ns, .int p) = .ok (.tuple [.str x, .int ((p + (strC x).length : Nat) : Int)]) := by
  have hb := sizeLine_eq
  have hl := hx.le
  have h0 := Rd.hd hr
  have hp : p < ns.length := (List.getElem?_eq_some_iff.mp h0).1
  match e : x.cps.toList with
  | [] =>
    have := slen x
    rw [e] at this
    have := hx.ne
    simp at *
    omega
  | c :: l =>
    have hlen : l.length + 1 = x.length := by rw [← slen, e]; rfl
    have hr' : Rd ns (p + 1) (codes (c :: l)) := by rw [← e]; exact Rd.tl hr
    have hc := hx.hd c (by rw [e]; rfl)
    unfold m_read_name
    simp only
    rw [r_num h0 (by have := hx.ne; omega) (by omega), bind_ok, add_1, opt_some]
    rw [r_num (c := (c : Int)) (Rd.hd hr') (by omega) (by omega), bind_ok, sub_i, opt_some, r_small hc, opt_some, add_2, opt_some, opt_some, add_n, opt_some]
    rw [rg2_ok (by omega), opt2_some]
    rw [for_name (ns := ns) rfl l (p + 2) ⟨#[c]⟩ (fun d hd => hx.al d (by rw [e]; exact List.Mem.tail _ hd)) (Rd.tl hr') (by show 1 + l.length ≤ _; omega) _ (by omega), bind_ok, nxK_nx]
    rw [opt_some, add_n, opt_some, strC_len]
    have e3 : (⟨(([c] : List Nat) ++ l).toArray⟩ : Str) = x := by
      show (⟨(c :: l).toArray⟩ : Str) = x
      rw [← e, Array.toArray_toList]
    show R.ok (PyData.tuple [.str ⟨(([c] : List Nat) ++ l).toArray⟩, .int ((p + 1 + x.length : Nat) : Int)]) = _
    rw [e3, Nat.add_assoc, Nat.add_comm 1]
end MX

set_option Elab.async false
set_option linter.all false
set_option maxRecDepth 100000
namespace MX
open PySem PySem.Spec PyProof.Rows L2

/-! ### what is written, what is read -/
/-- an application: name, then arguments -/
def Nd (ok : Str → Nat → Prop) (P : D → List Int → Prop) (d : D) (cs : List Int) : Prop :=
  ∃ (x : Str) (args : List D) (rows : List (List Int)), ok x args.length ∧ x.length ≤ 16 ∧ All2 P args rows ∧ args.length ≤ 8 ∧ d = .tuple (.str x :: args) ∧ cs = ((args.length + 1 : Nat) : Int) :: (strC x ++ rows.flatten)
def VarP (d : D) (cs : List Int) : Prop := ∃ i : Int, 0 ≤ i ∧ i < 65536 ∧ d = .int i ∧ cs = [0, i / 256, i % 256]
def Tm : Nat → D → List Int → Prop
  | 0 => fun _ _ => False
  | n + 1 => fun d cs => VarP d cs ∨ Nd (fun x _ => NameOk x) (Tm n) d cs
def sEq : Str := "="
def At : D → List Int → Prop := Nd (fun x k => NameOk x ∨ (x = sEq ∧ k = 2)) (Tm 19)
def RowsC (P : D → List Int → Prop) (d : D) (cs : List Int) : Prop := ∃ (ds : List D) (rows : List (List Int)), All2 P ds rows ∧ ds.length ≤ 255 ∧ d = .tuple ds ∧ cs = (ds.length : Int) :: rows.flatten
def NameP (d : D) (cs : List Int) : Prop := ∃ x, NameOk x ∧ d = .str x ∧ cs = strC x
def LabelP (d : D) (cs : List Int) : Prop := ∃ x, (NameOk x ∨ x = "") ∧ d = .str x ∧ cs = strC x
def NumsP (d : D) (cs : List Int) : Prop := ∃ ms : List Int, (∀ m ∈ ms, 0 ≤ m ∧ m ≤ 255) ∧ ms.length ≤ 255 ∧ d = .tuple (I ms) ∧ cs = (ms.length : Int) :: ms
def RuleP (d : D) (cs : List Int) : Prop := ∃ dn cn dp cp dc cc, NameP dn cn ∧ RowsC At dp cp ∧ At dc cc ∧ d = .tuple [dn, dp, dc] ∧ cs = cn ++ (cp ++ cc)
def ClaimP (d : D) (cs : List Int) : Prop := ∃ dn cn u dp cp dd cd di ci, NameP dn cn ∧ (0 ≤ u ∧ u ≤ 255) ∧ RowsC At dp cp ∧ RowsC (RowsC At) dd cd ∧ NumsP di ci ∧ d = .tuple [dn, .tuple [.int u, dp, dd], di] ∧ cs = cn ++ (u :: (cp ++ (cd ++ ci)))
def BlockP (d : D) (cs : List Int) : Prop := ∃ (b : Bool) (ds : List D) (rows : List (List Int)), All2 ClaimP ds rows ∧ 1 ≤ ds.length ∧ ds.length ≤ 255 ∧ d = .tuple [.bool b, .tuple ds] ∧ cs = (if b then 1 else 0) :: ((ds.length : Int) :: rows.flatten)
def StepP (d : D) (cs : List Int) : Prop :=
  (∃ k, (0 ≤ k ∧ k ≤ 255) ∧ d = .tuple [.str "invert", .int k] ∧ cs = [4, k]) ∨
  (∃ k dt ct, (0 ≤ k ∧ k ≤ 255) ∧ RowsC (Tm 20) dt ct ∧ d = .tuple [.str "done", .int k, dt] ∧ cs = 1 :: (k :: ct)) ∨
  ∃ (b : Bool) (dn : D) (cn : List Int) (dt : D) (ct : List Int) (dm : D) (cm : List Int), NameP dn cn ∧ RowsC (Tm 20) dt ct ∧ NumsP dm cm ∧ d = .tuple [.str (if b then "apply" else "rule"), dn, dt, dm] ∧ cs = (if b then 3 else 2) :: (cn ++ (ct ++ cm))
def PartP (P : D → List Int → Prop) (d : D) (cs : List Int) : Prop := ∃ dl cl da ca, LabelP dl cl ∧ P da ca ∧ d = .tuple [dl, da] ∧ cs = cl ++ ca
def ArgP : Nat → D → List Int → Prop
  | 0 => fun _ _ => False
  | n + 1 => fun d cs => ∃ dst cst ds rows, StepP dst cst ∧ All2 (PartP (ArgP n)) ds rows ∧ ds.length ≤ 255 ∧ d = .tuple [dst, .tuple ds] ∧ cs = cst ++ ((ds.length : Int) :: rows.flatten)
def KeyP (d : D) (cs : List Int) : Prop := (d = .none ∧ cs = [0]) ∨ ∃ dk ck, NameP dk ck ∧ d = dk ∧ cs = 1 :: ck
def EntryP (d : D) (cs : List Int) : Prop := ∃ dn cn dk ck da ca, NameP dn cn ∧ KeyP dk ck ∧ ArgP 60 da ca ∧ d = .tuple [dn, dk, da] ∧ cs = cn ++ (ck ++ ca)
def PartsP (d : D) (cs : List Int) : Prop := ∃ dn cn di ci dr cr db cb de ce, NameP dn cn ∧ RowsC NameP di ci ∧ RowsC RuleP dr cr ∧ RowsC BlockP db cb ∧ RowsC EntryP de ce ∧ d = .tuple [dn, di, dr, db, de] ∧ cs = [79, 82, 77, 49] ++ (cn ++ (ci ++ (cr ++ (cb ++ ce))))

def Wr (w : D × List D → R (List D)) (P : D → List Int → Prop) : Prop := ∀ d cs f, P d cs → f.length + cs.length ≤ sizeLine → w (d, f) = .ok (f ++ I cs)
def Lw (l : D → R D) (P : D → List Int → Prop) : Prop := ∀ d cs, P d cs → cs.length ≤ sizeLine → l d = .ok (.list (I cs))
def Re (q : D × D → R D) (P : D → List Int → Prop) : Prop := ∀ (ns : List Int) (p : Nat) (d : D) (cs : List Int), ns.length ≤ sizeLine → P d cs → Rd ns p cs → q (T ns, .int p) = .ok (.tuple [d, .int ((p + cs.length : Nat) : Int)])

theorem t0 {P : D → List Int → Prop} (h : ∀ d cs, ¬ P d cs) {ds : List D} {rows : List (List Int)} (a : All2 P ds rows) : ds = [] := by
  cases a with
  | nil => rfl
  | cons p _ => exact (h _ _ p).elim
/-- a writing loop, by what is written of one -/
theorem for_w {w : D × List D → R (List D)} {P : D → List Int → Prop} (hw : Wr w P) {ds : List D} {rows : List (List Int)} (h : All2 P ds rows) {B : D → List D → R (Ct (List D))} (hB : ∀ y c, B y c = R.bind (w (y, c)) fun b => .ok (.nx b)) (f : List D) (hf : f.length + rows.flatten.length ≤ sizeLine) :
    forL B ds f = .ok (.nx (f ++ I rows.flatten)) := for_wr (P := P) (cap := sizeLine) (fun d cs f p l => by rw [hB, hw d cs f p l]; rfl) h f hf
theorem strict_i {i : Int} : isIntD (.int i) = true := rfl
theorem sl_from1 {a : D} {l : List D} : slD (.tuple (a :: l)) (some 1) none = some (.tuple l) := by
  show some (PyData.tuple (cutL (a :: l) (some 1) none)) = _
  unfold cutL
  have h1 : HT.sIx (a :: l).length 0 (some 1) = 1 := by
    rw [show (1 : Int) = ((1 : Nat) : Int) from rfl, sIx_nat, List.length_cons]
    omega
  have h2 : HT.sIx (a :: l).length (a :: l).length none = (a :: l).length := rfl
  rw [h1, h2]
  simp
/-! ### terms, written -/
theorem w_node {ok : Str → Nat → Prop} {P : D → List Int → Prop} {q : D × List D → R (List D)} (hq : Wr q P) : Wr (g_write_term q) (Nd ok P) := by
  intro d cs f ⟨x, args, rows, _, hx, ha, h8, e1, e2⟩ hf
  subst e1; subst e2
  have hb := sizeLine_eq
  rw [List.length_cons, List.length_append, strC_len] at hf
  unfold g_write_term
  simp only
  rw [show isIntD (.tuple (.str x :: args)) = false from rfl, opt_some, tru_b, ite_f, len_t, opt_some, ap_ok (by omega), opt_some]
  rw [show ixD (.tuple (.str x :: args)) (.int 0) = some (.str x) from ix_t (n := 0) rfl, opt_some]
  rw [w_name (by omega) (by rw [List.length_append, List.length_singleton, strC_len]; omega), bind_ok, asInt_i, opt_some, sl_from1, opt_some, seq_t, opt_some]
  rw [for_w hq ha (B := b1_write_term q) (fun y c => rfl) _ (by rw [List.length_append, List.length_append, I_len, List.length_singleton, strC_len]; omega), bind_ok, nxK_nx, bind_ok, nxK_nx]
  rw [List.append_assoc, List.append_assoc, I_app]
  rfl
theorem w_var {q : D × List D → R (List D)} : Wr (g_write_term q) VarP := by
  intro d cs f ⟨i, h0, h1, e1, e2⟩ hf
  subst e1; subst e2
  unfold g_write_term
  simp only
  rw [strict_i, opt_some, tru_b, ite_t, fdiv_i (by decide), opt_some, int_i, opt_some, mod_i (by decide), opt_some, ex_l hf, opt_some, bind_ok, nxK_nx]
  rfl
theorem w_tm : ∀ (n k : Nat), n ≤ k → Wr (m_write_term k) (Tm n)
  | 0, k, _ => fun d cs f h _ => h.elim
  | n + 1, 0, h => absurd h (by omega)
  | n + 1, k + 1, h => fun d cs f p hf => by
    rcases p with p | p
    · exact w_var d cs f p hf
    · exact w_node (w_tm n k (by omega)) d cs f p hf
theorem w_at : Wr (m_write_term 24) At := w_node (w_tm 19 23 (by decide))
theorem w_rows {w : D × List D → R (List D)} {P : D → List Int → Prop} (hw : Wr w P) {B : D → List D → R (Ct (List D))} (hB : ∀ y c, B y c = R.bind (w (y, c)) fun b => .ok (.nx b)) {d : D} {cs : List Int} {f : List D} (h : RowsC P d cs) (hf : f.length + cs.length ≤ sizeLine) {β : Type} (k : List D → R β) :
    (R.opt (lenD [d]) fun z1 => R.opt (apD f z1) fun z2 => R.opt (seqD d) fun l3 => R.bind (forL B l3 z2) (nxK k)) = k (f ++ I cs) := by
  obtain ⟨ds, rows, ha, _, e1, e2⟩ := h
  subst e1; subst e2
  rw [List.length_cons] at hf
  rw [len_t, opt_some, ap_ok (by omega), opt_some, seq_t, opt_some, for_w hw ha hB _ (by rw [List.length_append, List.length_singleton]; omega), bind_ok, nxK_nx, List.append_assoc]
  rfl
theorem w_terms {P : D → List Int → Prop} (h : Wr (m_write_term 24) P) : Wr m_write_terms (RowsC P) := fun d cs f p hf => w_rows h (B := b1_write_terms) (fun y c => rfl) p hf fun c => .ok c
theorem w_nums : Wr m_write_numbers NumsP := by
  intro d cs f ⟨ms, _, h2, e1, e2⟩ hf
  subst e1; subst e2
  rw [List.length_cons] at hf
  unfold m_write_numbers
  simp only
  rw [len_t, opt_some, I_len, ap_ok (by omega), opt_some, ex_t (by rw [List.length_append, I_len, List.length_singleton]; omega), opt_some, List.append_assoc]
  rfl
/-! ### terms, as the law writes them -/
theorem l_join {rows : List (List Int)} : ∀ (acc : List Int), acc.length + rows.flatten.length ≤ sizeLine → forL b1__law_joined_up (rows.map fun r => .list (I r)) (.list (I acc)) = .ok (.nx (.list (I (acc ++ rows.flatten)))) := by
  induction rows with
  | nil => intro acc _; simp [forL]
  | cons r rows ih =>
    intro acc h
    rw [List.flatten_cons, List.length_append] at h
    have eB : b1__law_joined_up (.list (I r)) (.list (I acc)) = .ok (.nx (.list (I (acc ++ r)))) := by
      unfold b1__law_joined_up
      rw [add_l (by rw [I_len, I_len]; omega), opt_some, I_app]
    show R.bind (b1__law_joined_up (.list (I r)) (.list (I acc))) _ = _
    rw [eB]
    refine (ih (acc ++ r) (by rw [List.length_append]; omega)).trans ?_
    rw [List.flatten_cons, List.append_assoc]
theorem l_joined {rows : List (List Int)} (h : rows.flatten.length ≤ sizeLine) : m__law_joined_up (.list (rows.map fun r => .list (I r))) = .ok (.list (I rows.flatten)) := by
  unfold m__law_joined_up
  rw [seq_l, opt_some, show (PyData.list []) = .list (I []) from rfl, l_join [] (by simpa using h), bind_ok, nxK_nx]
  rfl
theorem l_list {rows : List (List Int)} {n : Nat} (hn : rows.length = n) (h : rows.flatten.length + 1 ≤ sizeLine) : m__law_written_list (.list (rows.map fun r => .list (I r))) = .ok (.list (I ((n : Int) :: rows.flatten))) := by
  unfold m__law_written_list
  rw [len_l, opt_some, List.length_map, hn, l_joined (by omega), bind_ok, add_l (by rw [I_len, List.length_singleton]; omega), opt_some]
  rfl
theorem lc_l {l : D → R D} {P : D → List Int → Prop} (hl : Lw l P) {ds : List D} {rows : List (List Int)} (h : All2 P ds rows) (hr : rows.flatten.length ≤ sizeLine) (hd : ds.length ≤ 255) {B : D → Unit → R (D × Unit)} (hB : ∀ y, B y () = R.bind (l y) fun b => .ok (b, ())) :
    lcL B ds () [] = .ok (rows.map (fun r => .list (I r)), ()) := by
  have hb := sizeLine_eq
  have h' : All2 (fun d cs => P d cs ∧ cs.length ≤ sizeLine) ds rows := by
    clear hd
    induction h with
    | nil => exact .nil
    | cons p t ih =>
      rw [List.flatten_cons, List.length_append] at hr
      exact .cons ⟨p, by omega⟩ (ih (by omega))
  refine (lc_wr (P := fun d cs => P d cs ∧ cs.length ≤ sizeLine) (fun d cs p => by rw [hB, hl d cs p.1 p.2]; rfl) h' [] (by rw [List.length_nil]; omega)).trans ?_
  rw [List.nil_append]
theorem l_node {ok : Str → Nat → Prop} {P : D → List Int → Prop} {q : D → R D} (hq : Lw q P) : Lw (g__law_written_term q) (Nd ok P) := by
  intro d cs ⟨x, args, rows, _, hx, ha, h8, e1, e2⟩ hf
  subst e1; subst e2
  have hb := sizeLine_eq
  rw [List.length_cons, List.length_append, strC_len] at hf
  unfold g__law_written_term
  rw [show isIntD (.tuple (.str x :: args)) = false from rfl, opt_some, tru_b, ite_f, len_t, opt_some]
  rw [show ixD (.tuple (.str x :: args)) (.int 0) = some (.str x) from ix_t (n := 0) rfl, opt_some]
  rw [l_name (by omega), bind_ok, add_l (by rw [I_len, List.length_singleton, strC_len]; omega), opt_some, asInt_i, opt_some, sl_from1, opt_some, seq_t, opt_some]
  rw [lc_l hq ha (by omega) (by omega) (B := b1__law_written_term q) (fun y => rfl), bind2_ok, l_joined (by omega), bind_ok]
  rw [add_l (by rw [List.length_append, I_len, I_len, List.length_singleton, strC_len]; omega), opt_some, List.append_assoc, I_app]
  rfl
theorem l_var {q : D → R D} : Lw (g__law_written_term q) VarP := by
  intro d cs ⟨i, h0, h1, e1, e2⟩ hf
  subst e1; subst e2
  unfold g__law_written_term
  rw [strict_i, opt_some, tru_b, ite_t, fdiv_i (by decide), opt_some, int_i, opt_some, mod_i (by decide), opt_some]
  rfl
theorem l_tm : ∀ (n k : Nat), n ≤ k → Lw (m__law_written_term k) (Tm n)
  | 0, k, _ => fun d cs h _ => h.elim
  | n + 1, 0, h => absurd h (by omega)
  | n + 1, k + 1, h => fun d cs p hf => by
    rcases p with p | p
    · exact l_var d cs p hf
    · exact l_node (l_tm n k (by omega)) d cs p hf
theorem l_at : Lw (m__law_written_term 24) At := l_node (l_tm 19 23 (by decide))
theorem l_terms {P : D → List Int → Prop} (h : Lw (m__law_written_term 24) P) : Lw m__law_written_terms (RowsC P) := by
  intro d cs ⟨ds, rows, ha, h2, e1, e2⟩ hf
  subst e1; subst e2
  rw [List.length_cons] at hf
  unfold m__law_written_terms
  rw [seq_t, opt_some, lc_l h ha (by omega) h2 (B := b1__law_written_terms) (fun y => rfl), bind2_ok, l_list ha.length.symm (by omega), bind_ok]
/-! ### terms, read -/
theorem r_args {q : D × D × D → R D} {P : D → List Int → Prop} {ns : List Int} {e : Int} (hq : ∀ (p : Nat) (d : D) (cs : List Int), P d cs → Rd ns p cs → q (T ns, .int p, .int e) = .ok (.tuple [d, .int ((p + cs.length : Nat) : Int)]))
    {args : List D} {rows : List (List Int)} (h : All2 P args rows) {p : Nat} {t : List D} {n : Int} (hn : n = args.length) (hl : t.length + args.length ≤ 1000) (hr : Rd ns p rows.flatten) : g_read_arguments q (T ns, .int p, .tuple t, .int n, .int e) = .ok (.tuple [.tuple (t ++ args), .int ((p + rows.flatten.length : Nat) : Int)]) := by
  have hb := sizeLine_eq
  unfold g_read_arguments
  simp only
  rw [rg1_ok (by omega), opt2_some]
  have := for_rd (B := b1_read_arguments q (T ns, .int p, .tuple t, .int n, .int e)) (st := fun p acc => ((.int p, .tuple acc) : D × D)) (P := P) (ns := ns) (cap := 1000) (fun y d cs p acc hp hr ha => by
    unfold b1_read_arguments
    simp only
    rw [hq p d cs hp hr, bind_ok, un2_t, opt2_some, add_t (by rw [List.length_singleton]; omega), opt_some]) h (rngD 0 n) p t (by rw [rng_len]; omega) hl hr
  rw [this, bind_ok, nxK_nx]
theorem r_tm {ns : List Int} (hns : ns.length ≤ sizeLine) : ∀ (n k : Nat) (e : Int), n ≤ k → n + e = 21 → 1 ≤ e → ∀ (p : Nat) (d : D) (cs : List Int), Tm n d cs → Rd ns p cs → m_read_term k (T ns, .int p, .int e) = .ok (.tuple [d, .int ((p + cs.length : Nat) : Int)])
  | 0, k, _, _, _, _ => fun _ _ _ h _ => h.elim
  | n + 1, 0, _, h, _, _ => absurd h (by omega)
  | n + 1, k + 1, e, h, he, h1 => fun p d cs hp hr => by
    have hb := sizeLine_eq
    show g_read_term (g_read_arguments (m_read_term k)) (T ns, .int p, .int e) = _
    unfold g_read_term
    simp only
    obtain ⟨most, hm, hm1, hm2⟩ : ∃ most : Int, (R.ite (eqD (.int e) (.int 20)) (.ok (.nx (.int 1))) (.ok (.nx (.int 9))) : R (Ct D)) = .ok (.nx (.int most)) ∧ 1 ≤ most ∧ (n ≠ 0 → most = 9) := by
      rw [eq_i]
      by_cases q : e = 20
      · exact ⟨1, by rw [show (e == 20) = true by simpa using q, ite_t], by decide, fun z => by omega⟩
      · exact ⟨9, by rw [show (e == 20) = false by simpa using q, ite_f], by decide, fun _ => rfl⟩
    rw [hm, bind_ok, nxK_nx]
    rcases hp with ⟨i, h0, h1', e1, e2⟩ | ⟨x, args, rows, hx, _, ha, h8, e1, e2⟩
    · subst e1; subst e2
      rw [r_num (c := 0) hr.hd (by omega) (by omega), bind_ok, eq_i, show ((0 : Int) == 0) = true from rfl, ite_t, add_1, opt_some, r_num hr.tl.hd (by omega) (by omega), bind_ok, add_2, opt_some, r_num hr.tl.tl.hd (by omega) (by omega), bind_ok]
      rw [mul_i (by omega), opt_some, add_i, opt_some, add_3, opt_some, show i / 256 * 256 + i % 256 = i by omega]
      rfl
    · subst e1; subst e2
      have hc : ((args.length + 1 : Nat) : Int) ≤ most := by
        by_cases z : n = 0
        · subst z
          rw [t0 (P := Tm 0) (fun _ _ h => h) ha]
          simpa using hm1
        · rw [hm2 z]; omega
      rw [r_num hr.hd (by omega) hc, bind_ok, eq_i, show ((((args.length + 1 : Nat) : Int)) == 0) = false by simp; omega, ite_f, add_1, opt_some]
      rw [r_name hns hx hr.tl.left, bind_ok, un2_t, opt2_some, sub_i, opt_some, add_i, opt_some]
      rw [r_args (P := Tm n) (fun p d cs hp hr => r_tm hns n k (e + 1) (by omega) (by omega) (by omega) p d cs hp hr) ha (by omega) (by rw [List.length_singleton]; omega) hr.tl.right, bind_ok]
      simp only [List.length_cons, List.length_append, List.singleton_append]
      rw [show p + 1 + (strC x).length + rows.flatten.length = p + ((strC x).length + rows.flatten.length + 1) by omega]
theorem r_terms : Re m_read_terms (RowsC (Tm 20)) := by
  intro ns p d cs hns ⟨ds, rows, ha, h2, e1, e2⟩ hr
  subst e1; subst e2
  have hb := sizeLine_eq
  unfold m_read_terms
  simp only
  rw [r_num hr.hd (by omega) (by omega), bind_ok, add_1, opt_some]
  unfold m_read_arguments
  rw [r_args (P := Tm 20) (fun p d cs hp hr => r_tm hns 20 24 1 (by omega) (by omega) (by omega) p d cs hp hr) ha rfl (by rw [List.length_nil]; omega) hr.tl, bind_ok, List.nil_append, List.length_cons]
  rw [show p + 1 + rows.flatten.length = p + (rows.flatten.length + 1) by omega]
theorem cut_two {ns : List Int} {p : Nat} {a b : Int} {cs : List Int} (hr : Rd ns p (a :: b :: cs)) : slD (T ns) (some (p : Int)) (some ((p + 2 : Nat) : Int)) = some (.tuple [.int a, .int b]) := by
  have h2 : p + 1 < ns.length := (List.getElem?_eq_some_iff.mp hr.tl.hd).1
  show some (PyData.tuple (cutL (I ns) (some (p : Int)) (some ((p + 2 : Nat) : Int)))) = _
  unfold cutL
  have e1 : HT.sIx (I ns).length 0 (some (p : Int)) = p := by
    rw [sIx_nat, I_len]
    omega
  have e2 : HT.sIx (I ns).length (I ns).length (some ((p + 2 : Nat) : Int)) = p + 2 := by
    rw [sIx_nat, I_len]
    omega
  rw [e1, e2, show p + 2 - p = 2 by omega]
  obtain ⟨post, e⟩ := hr
  unfold I
  rw [← List.map_drop, e]
  rfl
theorem eq_two {a b c d : Int} : eqD (.tuple [.int a, .int b]) (.tuple [.int c, .int d]) = some (a == c && (b == d)) := by
  show eqG _ _ = _
  unfold eqG
  rw [if_pos ⟨by simp [PyData.canLay0, PyData.canLayAll0], by simp [PyData.canLay0, PyData.canLayAll0], by simp [PyData.depth, PyData.depthAll]⟩]
  simp only [PyData.eqv, PyData.eqvAll, Bool.and_true]
theorem r_at : Re m_read_atom At := by
  intro ns p d cs hns ⟨x, args, rows, hx, _, ha, h8, e1, e2⟩ hr
  subst e1; subst e2
  have hb := sizeLine_eq
  unfold m_read_atom
  simp only
  rw [r_num hr.hd (by omega) (by omega), bind_ok, eq_i]
  have hq : ∀ (p : Nat) (d : D) (cs : List Int), Tm 19 d cs → Rd ns p cs → m_read_term 24 (T ns, .int p, .int 2) = .ok (.tuple [d, .int ((p + cs.length : Nat) : Int)]) := fun p d cs hp hr => r_tm hns 19 24 2 (by omega) (by omega) (by omega) p d cs hp hr
  -- the sign = alone, of two
  by_cases he : x = sEq ∧ args.length = 2
  · obtain ⟨rfl, h2⟩ := he
    have eq : strC sEq = [1, 61] := by decide +kernel
    rw [eq] at hr
    rw [h2, show (((2 + 1 : Nat) : Int) == 3) = true from rfl, ite_t, add_1, opt_some, asInt_i, opt_some, add_3, opt_some, asInt_i, opt_some, show p + 3 = p + 1 + 2 from rfl, cut_two hr.tl, opt_some, eq_two, show ((1 : Int) == 1 && ((61 : Int) == 61)) = true from rfl, ite_t, bif_t, opt_some]
    unfold m_read_arguments
    rw [show (PyData.str "=") = .str sEq from rfl, r_args (P := Tm 19) hq ha (by omega) (by rw [List.length_singleton]; omega) (p := p + 1 + 2) (Rd.right (a := [1, 61]) hr.tl), bind_ok, eq]
    simp only [List.length_cons, List.length_append, List.singleton_append, List.length_nil]
    rw [show p + 1 + 2 + rows.flatten.length = p + (0 + 1 + 1 + rows.flatten.length + 1) by omega]
  · have hx : NameOk x := hx.resolve_right he
    have rest : (R.opt (addD (.int p) (.int 1)) fun z9 => R.bind (m_read_name (T ns, z9)) fun b10 => R.opt2 (un2 b10) fun u11 u12 => R.opt (subD (.int ((args.length + 1 : Nat) : Int)) (.int 1)) fun z13 => R.bind ((m_read_arguments 24) (T ns, u12, (.tuple [u11]), z13, (.int 2))) fun b14 => .ok b14)
        = .ok (.tuple [.tuple (.str x :: args), .int ((p + (((args.length + 1 : Nat) : Int) :: (strC x ++ rows.flatten)).length : Nat) : Int)]) := by
      rw [add_1, opt_some, r_name hns hx hr.tl.left, bind_ok, un2_t, opt2_some, sub_i, opt_some]
      unfold m_read_arguments
      rw [r_args (P := Tm 19) hq ha (by omega) (by rw [List.length_singleton]; omega) hr.tl.right, bind_ok]
      simp only [List.length_cons, List.length_append, List.singleton_append]
      rw [show p + 1 + (strC x).length + rows.flatten.length = p + ((strC x).length + rows.flatten.length + 1) by omega]
    by_cases h2 : args.length = 2
    · have h3 := slen x
      match e : x.cps.toList with
      | [] =>
        rw [e] at h3
        have := hx.ne
        simp at h3
        omega
      | c :: l =>
        have hc := hx.hd c (by rw [e]; rfl)
        have eC : strC x = (x.length : Int) :: ((c : Int) :: codes l) := by unfold strC; rw [e]; rfl
        have hr2 : Rd ns (p + 1) ((x.length : Int) :: ((c : Int) :: (codes l ++ rows.flatten))) := by
          have := hr.tl
          rw [eC] at this
          exact this
        rw [show ((((args.length + 1 : Nat) : Int)) == 3) = true by rw [h2]; rfl, ite_t]
        rw [show (R.opt (addD (.int p) (.int 1)) fun z2 => R.opt (asInt z2) fun z3 => R.opt (addD (.int p) (.int 3)) fun z4 => R.opt (asInt z4) fun z5 => R.opt (slD (T ns) (some z3) (some z5)) fun z6 => R.ite (eqD z6 (.tuple [(.int 1), (.int 61)])) (.ok true) (.ok false)) = (.ok false : R Bool) from by
          rw [add_1, opt_some, asInt_i, opt_some, add_3, opt_some, asInt_i, opt_some, show p + 3 = p + 1 + 2 from rfl, cut_two hr2, opt_some, eq_two, show ((c : Int) == 61) = false by simp; omega, Bool.and_false, ite_f], bif_f]
        exact rest
    · rw [show ((((args.length + 1 : Nat) : Int)) == 3) = false by simp; omega, ite_f, bif_f]
      exact rest
end MX

set_option Elab.async false
set_option linter.all false
set_option maxRecDepth 100000
namespace MX
open PySem PySem.Spec PyProof.Rows L2

theorem NameP.sh {d : D} {cs : List Int} (h : NameP d cs) : ∃ x, x.length ≤ 16 ∧ d = .str x ∧ cs = strC x := by
  obtain ⟨x, hx, e1, e2⟩ := h
  exact ⟨x, hx.le, e1, e2⟩
theorem LabelP.sh {d : D} {cs : List Int} (h : LabelP d cs) : ∃ x, x.length ≤ 16 ∧ d = .str x ∧ cs = strC x := by
  obtain ⟨x, hx, e1, e2⟩ := h
  refine ⟨x, ?_, e1, e2⟩
  rcases hx with hx | hx
  · exact hx.le
  · subst hx; decide
theorem wN {d : D} {cs : List Int} {f : List D} (h : ∃ x, x.length ≤ 16 ∧ d = .str x ∧ cs = strC x) (hf : f.length + cs.length ≤ sizeLine) : m_write_name (d, f) = .ok (f ++ I cs) := by
  obtain ⟨x, hx, e1, e2⟩ := h
  subst e1; subst e2
  exact w_name (by omega) hf
theorem lN {d : D} {cs : List Int} (h : ∃ x, x.length ≤ 16 ∧ d = .str x ∧ cs = strC x) : m__law_written_name d = .ok (.list (I cs)) := by
  obtain ⟨x, hx, e1, e2⟩ := h
  subst e1; subst e2
  exact l_name (by omega)
theorem rN {ns : List Int} {p : Nat} {d : D} {cs : List Int} (hns : ns.length ≤ sizeLine) (h : NameP d cs) (hr : Rd ns p cs) : m_read_name (T ns, .int p) = .ok (.tuple [d, .int ((p + cs.length : Nat) : Int)]) := by
  obtain ⟨x, hx, e1, e2⟩ := h
  subst e1; subst e2
  exact r_name hns hx hr
theorem appI {f : List D} {a b : List Int} : f ++ I a ++ I b = f ++ I (a ++ b) := by rw [List.append_assoc, I_app]
theorem appI1 {f : List D} {b : List Int} {a : Int} : f ++ [.int a] ++ I b = f ++ I (a :: b) := by rw [List.append_assoc]; rfl
theorem appI2 {f : List D} {a : List Int} {b : Int} : f ++ I a ++ [.int b] = f ++ I (a ++ [b]) := by rw [List.append_assoc, show [PyData.int b] = I [b] from rfl, I_app]
theorem lenI {f : List D} {a : List Int} : (f ++ I a).length = f.length + a.length := by rw [List.length_append, I_len]
theorem lenI1 {f : List D} {a : D} : (f ++ [a]).length = f.length + 1 := by rw [List.length_append, List.length_singleton]
theorem x0 {a : D} {l : List D} : ixD (.tuple (a :: l)) (.int 0) = some a := ix_t (n := 0) rfl
theorem x1 {a b : D} {l : List D} : ixD (.tuple (a :: b :: l)) (.int 1) = some b := ix_t (n := 1) rfl
theorem x2 {a b c : D} {l : List D} : ixD (.tuple (a :: b :: c :: l)) (.int 2) = some c := ix_t (n := 2) rfl
theorem x3 {a b c d : D} {l : List D} : ixD (.tuple (a :: b :: c :: d :: l)) (.int 3) = some d := ix_t (n := 3) rfl
theorem x4 {a b c d e : D} {l : List D} : ixD (.tuple (a :: b :: c :: d :: e :: l)) (.int 4) = some e := ix_t (n := 4) rfl
/-! ### written by the program -/
theorem w_rules : Wr m_write_rules (RowsC RuleP) := by
  intro d cs f h hf
  have one : Wr (fun a => R.opt3 (un3 a.1) fun u6 u7 u8 => R.bind (m_write_name (u6, a.2)) fun b9 => R.bind (m_write_terms (u7, b9)) fun b10 => (m_write_term 24) (u8, b10)) RuleP := by
    intro d cs f ⟨dn, cn, dp, cp, dc, cc, hn, hp, hc, e1, e2⟩ hf
    subst e1; subst e2
    rw [List.length_append, List.length_append] at hf
    simp only
    rw [un3_t, opt3_some, wN hn.sh (by omega), bind_ok, w_terms w_at _ _ _ hp (by rw [lenI]; omega), bind_ok, w_at _ _ _ hc (by rw [lenI, lenI]; omega), appI, appI]
  refine w_rows one (B := b1_write_rules) (fun y c => ?_) h hf fun c => .ok c
  unfold b1_write_rules
  cases un3 y with
  | none => rfl
  | some t =>
    simp only [R.opt3, R.opt]
    cases m_write_name (t.1, c) with
    | ok b =>
      simp only [R.bind]
      cases m_write_terms (t.2.1, b) <;> rfl
    | exc x => rfl
    | stuck => rfl
theorem w_claim : Wr m_write_claim ClaimP := by
  intro d cs f ⟨dn, cn, u, dp, cp, dd, cd, di, ci, hn, hu, hp, hd, hi, e1, e2⟩ hf
  subst e1; subst e2
  rw [List.length_append, List.length_cons, List.length_append, List.length_append] at hf
  unfold m_write_claim
  simp only
  rw [un3_t, opt3_some, wN hn.sh (by omega), bind_ok, x0, opt_some, ap_ok (by rw [lenI]; omega), opt_some, x1, opt_some, w_terms w_at _ _ _ hp (by rw [lenI1, lenI]; omega), bind_ok, x2, opt_some]
  obtain ⟨ds, rows, ha, _, e3, e4⟩ := hd
  subst e3; subst e4
  rw [List.length_cons] at hf
  rw [len_t, opt_some, ap_ok (by rw [lenI, lenI1, lenI]; omega), opt_some, opt_some, seq_t, opt_some]
  rw [for_w (w_terms w_at) ha (B := b1_write_claim) (fun y c => rfl) _ (by rw [lenI1, lenI, lenI1, lenI]; omega), bind_ok, nxK_nx, w_nums _ _ _ hi (by rw [lenI, lenI1, lenI, lenI1, lenI]; omega), bind_ok]
  rw [appI2, appI, appI2, appI, appI]
  simp only [List.append_assoc, List.singleton_append, List.cons_append, List.nil_append]
theorem w_blocks : Wr m_write_blocks (RowsC BlockP) := by
  intro d cs f h hf
  have one : Wr (fun a => R.opt2 (un2 a.1) fun u6 u7 => R.opt (intD [u6]) fun z8 => R.opt (apD a.2 z8) fun z9 => R.opt (lenD [u7]) fun z10 => R.opt (apD z9 z10) fun z11 => R.opt (seqD u7) fun l12 => R.bind (forL b1_write_blocks l12 z11) (nxK fun (c16 : List D) => .ok c16)) BlockP := by
    intro d cs f ⟨b, ds, rows, ha, _, _, e1, e2⟩ hf
    subst e1; subst e2
    rw [List.length_cons, List.length_cons] at hf
    simp only
    rw [un2_t, opt2_some, int_b, opt_some, ap_ok (by omega), opt_some, len_t, opt_some, ap_ok (by rw [lenI1]; omega), opt_some, seq_t, opt_some]
    rw [for_w w_claim ha (B := b1_write_blocks) (fun y c => rfl) _ (by rw [lenI1, lenI1]; omega), bind_ok, nxK_nx]
    simp only [List.append_assoc]
    rfl
  refine w_rows one (B := b2_write_blocks) (fun y c => ?_) h hf fun c => .ok c
  unfold b2_write_blocks
  cases un2 y with
  | none => rfl
  | some t =>
    simp only [R.opt2, R.opt]
    cases intD [t.1] with
    | none => rfl
    | some i =>
      simp only
      cases apD c i with
      | none => rfl
      | some e =>
        simp only
        cases lenD [t.2] with
        | none => rfl
        | some n =>
          simp only
          cases apD e n with
          | none => rfl
          | some g =>
            simp only
            cases seqD t.2 with
            | none => rfl
            | some l =>
              simp only
              cases forL b1_write_blocks l g with
              | ok r => cases r <;> rfl
              | exc x => rfl
              | stuck => rfl
theorem sk {x : String} {y : String} : eqD (.str x) (.str y) = some ((x : Str) == (y : Str)) := rfl
theorem k_inv : eqD (.str "invert") (.str "invert") = some true := by rw [sk]; decide +kernel
theorem k_done_inv : eqD (.str "done") (.str "invert") = some false := by rw [sk]; decide +kernel
theorem k_done : eqD (.str "done") (.str "done") = some true := by rw [sk]; decide +kernel
def rw_ (b : Bool) : String := if b then "apply" else "rule"
theorem k_rw_inv (b : Bool) : eqD (.str (rw_ b)) (.str "invert") = some false := by cases b <;> (rw [sk]; decide +kernel)
theorem k_rw_done (b : Bool) : eqD (.str (rw_ b)) (.str "done") = some false := by cases b <;> (rw [sk]; decide +kernel)
theorem k_rw_apply (b : Bool) : eqD (.str (rw_ b)) (.str "apply") = some b := by cases b <;> (rw [sk]; decide +kernel)
theorem kd (x : String) (i : Int) (h : cSTEP_KINDS.lookup (x : Str) = some (.int i)) : kdD cSTEP_KINDS (.str x) = some (.int i) := h
theorem str_if (b : Bool) : (PyData.str (if b then "apply" else "rule")) = .str (rw_ b) := by cases b <;> rfl
theorem w_step : Wr m_write_step StepP := by
  intro d cs f h hf
  unfold m_write_step
  simp only
  rcases h with ⟨k, hk, e1, e2⟩ | ⟨k, dt, ct, hk, ht, e1, e2⟩ | ⟨b, dn, cn, dt, ct, dm, cm, hn, ht, hm, e1, e2⟩
  · subst e1; subst e2
    simp only [List.length_cons, List.length_nil] at hf
    rw [x0, opt_some, kd "invert" 4 (by rfl), opt_some, ap_ok (by omega), opt_some, opt_some, k_inv, ite_t, x1, opt_some, ap_ok (by rw [lenI1]; omega), opt_some, bind_ok, nxK_nx, List.append_assoc]
    rfl
  · subst e1; subst e2
    simp only [List.length_cons] at hf
    rw [x0, opt_some, kd "done" 1 (by rfl), opt_some, ap_ok (by omega), opt_some, opt_some, k_done_inv, ite_f, opt_some, k_done, ite_t, x1, opt_some, ap_ok (by rw [lenI1]; omega), opt_some, x2, opt_some]
    rw [w_terms (w_tm 20 24 (by decide)) _ _ _ ht (by rw [lenI1, lenI1]; omega), bind_ok, bind_ok, nxK_nx, bind_ok, nxK_nx]
    simp only [List.append_assoc]
    rfl
  · subst e1; subst e2
    rw [List.length_cons, List.length_append, List.length_append] at hf
    rw [str_if, x0, opt_some, show kdD cSTEP_KINDS (.str (rw_ b)) = some (.int (if b then 3 else 2)) from by cases b <;> rfl, opt_some, ap_ok (by omega), opt_some, opt_some, k_rw_inv, ite_f, opt_some, k_rw_done, ite_f, x1, opt_some]
    rw [wN hn.sh (by rw [lenI1]; omega), bind_ok, x2, opt_some, w_terms (w_tm 20 24 (by decide)) _ _ _ ht (by rw [lenI, lenI1]; omega), bind_ok, x3, opt_some, w_nums _ _ _ hm (by rw [lenI, lenI, lenI1]; omega), bind_ok, bind_ok, nxK_nx, bind_ok, nxK_nx]
    rw [appI, appI]
    simp only [List.append_assoc]
    rfl
theorem w_arg : ∀ (n k : Nat), n ≤ k → Wr (m_write_argument k) (ArgP n)
  | 0, k, _ => fun d cs f h _ => h.elim
  | n + 1, 0, h => absurd h (by omega)
  | n + 1, k + 1, h => fun d cs f ⟨dst, cst, ds, rows, hs, ha, _, e1, e2⟩ hf => by
    subst e1; subst e2
    rw [List.length_append, List.length_cons] at hf
    show g_write_argument (m_write_argument k) (_, f) = _
    unfold g_write_argument
    simp only
    rw [un2_t, opt2_some, w_step _ _ _ hs (by omega), bind_ok, len_t, opt_some, ap_ok (by rw [lenI]; omega), opt_some, seq_t, opt_some]
    have one : Wr (fun a => R.opt2 (un2 a.1) fun u9 u10 => R.bind (m_write_name (u9, a.2)) fun b11 => (m_write_argument k) (u10, b11)) (PartP (ArgP n)) := by
      intro d cs f ⟨dl, cl, da, ca, hl, hA, e1, e2⟩ hf
      subst e1; subst e2
      rw [List.length_append] at hf
      simp only
      rw [un2_t, opt2_some, wN hl.sh (by omega), bind_ok, w_arg n k (by omega) _ _ _ hA (by rw [lenI]; omega), appI]
    rw [for_w one ha (B := b1_write_argument (m_write_argument k)) (fun y c => by
      unfold b1_write_argument
      cases un2 y with
      | none => rfl
      | some t =>
        simp only [R.opt2, R.opt]
        cases m_write_name (t.1, c) <;> rfl) _ (by rw [lenI1, lenI]; omega), bind_ok, nxK_nx]
    rw [appI2, appI]
    simp only [List.append_assoc, List.singleton_append]
theorem w_entries : Wr m_write_entries (RowsC EntryP) := by
  intro d cs f h hf
  have one : Wr (fun a => R.opt3 (un3 a.1) fun u6 u7 u8 => R.bind (m_write_name (u6, a.2)) fun b9 => R.bind (R.ite (some (isNoneD u7)) (R.opt (apD b9 (.int 0)) fun z11 => .ok (.nx z11)) (R.opt (apD b9 (.int 1)) fun z12 => R.bind (m_write_name (u7, z12)) fun b13 => .ok (.nx b13))) (nxK fun (c10 : List D) => (m_write_argument 64) (u8, c10))) EntryP := by
    intro d cs f ⟨dn, cn, dk, ck, da, ca, hn, hk, ha, e1, e2⟩ hf
    subst e1; subst e2
    rw [List.length_append, List.length_append] at hf
    simp only
    rw [un3_t, opt3_some, wN hn.sh (by omega), bind_ok]
    rcases hk with ⟨e3, e4⟩ | ⟨dk', ck', hk, e3, e4⟩
    · subst e3; subst e4
      simp only [List.length_cons, List.length_nil] at hf
      rw [show isNoneD .none = true from rfl, ite_t, ap_ok (by rw [lenI]; omega), opt_some, bind_ok, nxK_nx, w_arg 60 64 (by decide) _ _ _ ha (by rw [lenI1, lenI]; omega), appI2, appI]
      simp only [List.append_assoc]
    · subst e3; subst e4
      rw [List.length_cons] at hf
      rw [show isNoneD dk = false from by obtain ⟨x, _, e, _⟩ := hk; rw [e]; rfl, ite_f, ap_ok (by rw [lenI]; omega), opt_some, wN hk.sh (by rw [lenI1, lenI]; omega), bind_ok, bind_ok, nxK_nx, w_arg 60 64 (by decide) _ _ _ ha (by rw [lenI, lenI1, lenI]; omega), appI2, appI, appI]
      simp only [List.append_assoc, List.singleton_append, List.cons_append, List.nil_append]
  refine w_rows one (B := b1_write_entries) (fun y c => ?_) h hf fun c => .ok c
  unfold b1_write_entries
  cases un3 y with
  | none => rfl
  | some t =>
    simp only [R.opt3, R.opt]
    cases m_write_name (t.1, c) with
    | ok b =>
      simp only [R.bind]
      generalize (R.ite (some (isNoneD t.2.1)) _ _ : R (Ct (List D))) = r
      cases r with
      | ok q => cases q <;> rfl
      | exc x => rfl
      | stuck => rfl
    | exc x => rfl
    | stuck => rfl
theorem w_parts {d : D} {cs : List Int} (h : PartsP d cs) (hf : cs.length ≤ sizeLine) : m_numbers_of d = .ok (T cs) := by
  obtain ⟨dn, cn, di, ci, dr, cr, db, cb, de, ce, hn, hi, hr, hb, he, e1, e2⟩ := h
  subst e1; subst e2
  simp only [List.length_append, List.length_cons, List.length_nil] at hf
  unfold m_numbers_of
  rw [un5_t, opt5_some, show listD cMAGIC = some (I [79, 82, 77, 49]) from rfl, opt_some, wN hn.sh (by rw [I_len]; simp only [List.length_cons, List.length_nil]; omega), bind_ok]
  have one : Wr (fun a => m_write_name (a.1, a.2)) NameP := fun d cs f h hf => wN h.sh hf
  obtain ⟨ds, rows, ha, _, e3, e4⟩ := hi
  subst e3; subst e4
  rw [List.length_cons] at hf
  rw [len_t, opt_some, ap_ok (by rw [lenI, I_len]; simp only [List.length_cons, List.length_nil]; omega), opt_some, seq_t, opt_some, for_w one ha (B := b1_numbers_of) (fun y c => rfl) _ (by rw [lenI1, lenI, I_len]; simp only [List.length_cons, List.length_nil]; omega), bind_ok, nxK_nx]
  rw [w_rules _ _ _ hr (by rw [lenI, lenI1, lenI, I_len]; simp only [List.length_cons, List.length_nil]; omega), bind_ok, w_blocks _ _ _ hb (by rw [lenI, lenI, lenI1, lenI, I_len]; simp only [List.length_cons, List.length_nil]; omega), bind_ok]
  rw [w_entries _ _ _ he (by rw [lenI, lenI, lenI, lenI1, lenI, I_len]; simp only [List.length_cons, List.length_nil]; omega), bind_ok, tup_l, opt_some]
  unfold T
  rw [I_app, show [PyData.int (ds.length : Int)] = I [(ds.length : Int)] from rfl, I_app, I_app, I_app, I_app, I_app]
  simp only [List.append_assoc, List.singleton_append, List.cons_append, List.nil_append]
end MX

set_option Elab.async false
set_option linter.all false
set_option maxRecDepth 100000
namespace MX
open PySem PySem.Spec PyProof.Rows L2

/-! ### written by the law -/
theorem l_rows {ds : List D} {rows : List (List Int)} {P : D → List Int → Prop} (ha : All2 P ds rows) (h : rows.flatten.length + 1 ≤ sizeLine) : m__law_written_list (.list (rows.map fun r => .list (I r))) = .ok (.list (I ((ds.length : Int) :: rows.flatten))) := l_list ha.length.symm h
theorem adL {a b : List Int} (h : a.length + b.length ≤ sizeLine) : addD (.list (I a)) (.list (I b)) = some (.list (I (a ++ b))) := by rw [add_l (by rw [I_len, I_len]; exact h), I_app]
theorem adL1 {a : List Int} {b : Int} (h : a.length + 1 ≤ sizeLine) : addD (.list (I a)) (.list [.int b]) = some (.list (I (a ++ [b]))) := adL (b := [b]) h
theorem ad1L {a : List Int} {b : Int} (h : a.length + 1 ≤ sizeLine) : addD (.list [.int b]) (.list (I a)) = some (.list (I (b :: a))) := adL (a := [b]) (by rw [List.length_singleton]; omega)
theorem ad2L {a : List Int} {b c : Int} (h : a.length + 2 ≤ sizeLine) : addD (.list [.int b, .int c]) (.list (I a)) = some (.list (I (b :: c :: a))) := adL (a := [b, c]) (by simp only [List.length_cons, List.length_nil]; omega)
theorem l_claim : Lw m__law_written_claim ClaimP := by
  intro d cs ⟨dn, cn, u, dp, cp, dd, cd, di, ci, hn, hu, hp, hd, hi, e1, e2⟩ hf
  subst e1; subst e2
  have hb := sizeLine_eq
  simp only [List.length_append, List.length_cons] at hf
  obtain ⟨ds, rows, ha, h2, e3, e4⟩ := hd
  subst e3; subst e4
  obtain ⟨ms, _, h3, e5, e6⟩ := hi
  subst e5; subst e6
  simp only [List.length_cons] at hf
  unfold m__law_written_claim
  rw [x1, opt_some, x2, opt_some, seq_t, opt_some, lc_l (l_terms l_at) ha (by omega) h2 (B := b1__law_written_claim) (fun y => rfl), bind2_ok, x0, opt_some, lN hn.sh, bind_ok, x0, opt_some]
  rw [adL1 (by omega), opt_some, x1, opt_some, l_terms l_at _ _ hp (by omega), bind_ok, adL (by simp only [List.length_append, List.length_cons, List.length_nil]; omega), opt_some]
  rw [l_rows ha (by omega), bind_ok, adL (by simp only [List.length_append, List.length_cons, List.length_nil]; omega), opt_some, x2, opt_some, len_t, opt_some, I_len]
  rw [adL1 (by simp only [List.length_append, List.length_cons, List.length_nil]; omega), opt_some, opt_some, list_t, opt_some, adL (by simp only [List.length_append, List.length_cons, List.length_nil]; omega), opt_some]
  simp only [List.append_assoc, List.singleton_append, List.cons_append, List.nil_append]
theorem l_arg : ∀ (n k : Nat), n ≤ k → Lw (m__law_written_argument k) (ArgP n)
  | 0, k, _ => fun d cs h _ => h.elim
  | n + 1, 0, h => absurd h (by omega)
  | n + 1, k + 1, h => fun d cs ⟨dst, cst, ds, rows, hs, ha, h2, e1, e2⟩ hf => by
    subst e1; subst e2
    have hb := sizeLine_eq
    simp only [List.length_append, List.length_cons] at hf
    show g__law_written_argument (m__law_written_argument k) _ = _
    unfold g__law_written_argument
    rw [x0, opt_some]
    have step : ∀ {β : Type} (K : D → R β), (R.bind (R.opt (ixD dst (.int 0)) fun z3 =>
  R.ite (eqD z3 (.str "invert")) (
  R.opt (ixD dst (.int 1)) fun z4 =>
  .ok (.nx (.list [(.int 4), z4]))) (
  R.bind (R.opt (ixD dst (.int 0)) fun z6 =>
  R.ite (eqD z6 (.str "done")) (
  R.opt (ixD dst (.int 1)) fun z7 =>
  R.opt (ixD dst (.int 2)) fun z8 =>
  R.bind (m__law_written_terms z8) fun b9 =>
  R.opt (addD (.list [(.int 1), z7]) b9) fun z10 =>
  .ok (.nx z10)) (
  R.opt (ixD dst (.int 0)) fun z11 =>
  R.opt (eqD z11 (.str "apply")) fun z12 =>
  R.opt (intD [(.bool z12)]) fun z13 =>
  R.opt (addD (.int 2) z13) fun z14 =>
  R.opt (ixD dst (.int 1)) fun z15 =>
  R.bind (m__law_written_name z15) fun b16 =>
  R.opt (addD (.list [z14]) b16) fun z17 =>
  R.opt (ixD dst (.int 2)) fun z18 =>
  R.bind (m__law_written_terms z18) fun b19 =>
  R.opt (addD z17 b19) fun z20 =>
  R.opt (ixD dst (.int 3)) fun z21 =>
  R.opt (lenD [z21]) fun z22 =>
  R.opt (addD z20 (.list [z22])) fun z23 =>
  R.opt (ixD dst (.int 3)) fun z24 =>
  R.opt (listD z24) fun z25 =>
  R.opt (addD z23 (.list z25)) fun z26 =>
  .ok (.nx z26))) (nxK fun (c5 : D) =>
  .ok (.nx c5)))) (nxK K)) = K (.list (I cst)) := by
      intro β K
      rcases hs with ⟨k, hk, e1, e2⟩ | ⟨k, dt, ct, hk, ht, e1, e2⟩ | ⟨b, dn, cn, dt, ct, dm, cm, hn, ht, hm, e1, e2⟩
      · subst e1; subst e2
        rw [x0, opt_some, k_inv, ite_t, x1, opt_some, bind_ok, nxK_nx]
        rfl
      · subst e1; subst e2
        simp only [List.length_cons] at hf
        rw [x0, opt_some, k_done_inv, ite_f, opt_some, k_done, ite_t, x1, opt_some, x2, opt_some, l_terms (l_tm 20 24 (by decide)) _ _ ht (by omega), bind_ok, ad2L (by omega), opt_some, bind_ok, nxK_nx, bind_ok, nxK_nx]
      · subst e1; subst e2
        obtain ⟨ms, _, h3, e5, e6⟩ := hm
        subst e5; subst e6
        simp only [List.length_append, List.length_cons] at hf
        rw [str_if, x0, opt_some, k_rw_inv, ite_f, opt_some, k_rw_done, ite_f, opt_some, k_rw_apply, opt_some, int_b, opt_some, add_i, opt_some, x1, opt_some, lN hn.sh, bind_ok, ad1L (by omega), opt_some, x2, opt_some]
        rw [l_terms (l_tm 20 24 (by decide)) _ _ ht (by omega), bind_ok, adL (by simp only [List.length_cons]; omega), opt_some, x3, opt_some, len_t, opt_some, I_len, adL1 (by simp only [List.length_append, List.length_cons]; omega), opt_some, opt_some, list_t, opt_some]
        rw [adL (by simp only [List.length_append, List.length_cons, List.length_nil]; omega), opt_some, bind_ok, nxK_nx, bind_ok, nxK_nx]
        rw [show (2 : Int) + (if b = true then 1 else 0) = (if b = true then 3 else 2) by cases b <;> rfl]
        simp only [List.append_assoc, List.singleton_append, List.cons_append, List.nil_append]
    rw [step, x1, opt_some, seq_t, opt_some]
    have one : Lw (fun a => R.opt (ixD a (.int 0)) fun z33 => R.bind (m__law_written_name z33) fun b34 => R.opt (ixD a (.int 1)) fun z35 => R.bind (m__law_written_argument k z35) fun b36 => R.opt (addD b34 b36) fun z37 => .ok z37) (PartP (ArgP n)) := by
      intro d cs ⟨dl, cl, da, ca, hl, hA, e1, e2⟩ hf
      subst e1; subst e2
      rw [List.length_append] at hf
      simp only
      rw [x0, opt_some, lN hl.sh, bind_ok, x1, opt_some, l_arg n k (by omega) _ _ hA (by omega), bind_ok, adL (by omega), opt_some]
    rw [lc_l one ha (by omega) h2 (B := b1__law_written_argument (m__law_written_argument k)) (fun y => by
      unfold b1__law_written_argument
      cases ixD y (.int 0) with
      | none => rfl
      | some t =>
        simp only [R.opt]
        cases m__law_written_name t with
        | ok b =>
          simp only [R.bind]
          cases ixD y (.int 1) with
          | none => rfl
          | some u =>
            simp only
            cases m__law_written_argument k u with
            | ok e =>
              simp only
              cases addD b e <;> rfl
            | exc x => rfl
            | stuck => rfl
        | exc x => rfl
        | stuck => rfl), bind2_ok, l_rows ha (by omega), bind_ok, adL (by simp only [List.length_cons]; omega), opt_some]
/-- a loop that appends what is written of one -/
theorem for_l {l : D → R D} {P : D → List Int → Prop} (hl : Lw l P) {ds : List D} {rows : List (List Int)} (h : All2 P ds rows) (hr : rows.flatten.length ≤ sizeLine) (hd : ds.length ≤ 255) {B : D → List D → R (Ct (List D))} (hB : ∀ y c, B y c = R.bind (l y) fun b => R.opt (apD c b) fun z => .ok (.nx z)) :
    forL B ds [] = .ok (.nx (rows.map fun r => .list (I r))) := by
  have hb := sizeLine_eq
  have h' : All2 (fun d cs => P d cs ∧ cs.length ≤ sizeLine) ds rows := by
    clear hd
    induction h with
    | nil => exact .nil
    | cons p t ih =>
      rw [List.flatten_cons, List.length_append] at hr
      exact .cons ⟨p, by omega⟩ (ih (by omega))
  refine (for_rows (P := fun d cs => P d cs ∧ cs.length ≤ sizeLine) (fun d cs f p hf => by rw [hB, hl d cs p.1 p.2, bind_ok, ap_ok hf, opt_some]) h' [] (by rw [List.length_nil]; omega)).trans ?_
  rw [List.nil_append]
theorem l_rule : Lw (fun y18 => R.opt (ixD y18 (.int 0)) fun z19 =>
  R.bind (m__law_written_name z19) fun b20 =>
  R.opt (ixD y18 (.int 1)) fun z21 =>
  R.bind (m__law_written_terms z21) fun b22 =>
  R.opt (addD b20 b22) fun z23 =>
  R.opt (ixD y18 (.int 2)) fun z24 =>
  R.bind ((m__law_written_term 24) z24) fun b25 =>
  R.opt (addD z23 b25) fun z26 => .ok z26) RuleP := by
  intro d cs ⟨dn, cn, dp, cp, dc, cc, hn, hp, hc, e1, e2⟩ hf
  subst e1; subst e2
  simp only [List.length_append] at hf
  simp only
  rw [x0, opt_some, lN hn.sh, bind_ok, x1, opt_some, l_terms l_at _ _ hp (by omega), bind_ok, adL (by omega), opt_some, x2, opt_some, l_at _ _ hc (by omega), bind_ok, adL (by rw [List.length_append]; omega), opt_some, List.append_assoc]
theorem l_block : Lw (fun y32 => R.opt (ixD y32 (.int 0)) fun z33 =>
  R.opt (intD [z33]) fun z34 =>
  R.opt (ixD y32 (.int 1)) fun z35 =>
  R.opt (seqD z35) fun l36 =>
  R.bind2 (lcL b3__law_written l36 () []) fun l42 c43 =>
  R.bind (m__law_written_list (.list l42)) fun b44 =>
  R.opt (addD (.list [z34]) b44) fun z45 => .ok z45) BlockP := by
  intro d cs ⟨b, ds, rows, ha, h1, h2, e1, e2⟩ hf
  subst e1; subst e2
  simp only [List.length_cons] at hf
  simp only
  rw [x0, opt_some, int_b, opt_some, x1, opt_some, seq_t, opt_some, lc_l l_claim ha (by omega) h2 (B := b3__law_written) (fun y => rfl), bind2_ok, l_rows ha (by omega), bind_ok, ad1L (by rw [List.length_cons]; omega), opt_some]
theorem l_entry : Lw (fun y51 => R.bind (R.opt (ixD y51 (.int 1)) fun z53 =>
  R.ite (some (isNoneD z53)) (
  .ok (.nx (.list [(.int 0)]))) (
  R.opt (ixD y51 (.int 1)) fun z54 =>
  R.bind (m__law_written_name z54) fun b55 =>
  R.opt (addD (.list [(.int 1)]) b55) fun z56 =>
  .ok (.nx z56))) (nxK fun (c52 : D) =>
  R.opt (ixD y51 (.int 0)) fun z57 =>
  R.bind (m__law_written_name z57) fun b58 =>
  R.opt (addD b58 c52) fun z59 =>
  R.opt (ixD y51 (.int 2)) fun z60 =>
  R.bind ((m__law_written_argument 64) z60) fun b61 =>
  R.opt (addD z59 b61) fun z62 => .ok z62)) EntryP := by
  intro d cs ⟨dn, cn, dk, ck, da, ca, hn, hk, ha, e1, e2⟩ hf
  subst e1; subst e2
  simp only [List.length_append] at hf
  simp only
  rw [x1, opt_some]
  rcases hk with ⟨e3, e4⟩ | ⟨dk', ck', hk, e3, e4⟩
  · subst e3; subst e4
    simp only [List.length_cons, List.length_nil] at hf
    rw [show isNoneD .none = true from rfl, ite_t, bind_ok, nxK_nx, x0, opt_some, lN hn.sh, bind_ok, adL1 (by omega), opt_some, x2, opt_some, l_arg 60 64 (by decide) _ _ ha (by omega), bind_ok, adL (by simp only [List.length_append, List.length_cons, List.length_nil]; omega), opt_some, List.append_assoc]
  · subst e3; subst e4
    simp only [List.length_cons] at hf
    rw [show isNoneD dk = false from by obtain ⟨x, _, e, _⟩ := hk; rw [e]; rfl, ite_f, opt_some, lN hk.sh, bind_ok, ad1L (by omega), opt_some, bind_ok, nxK_nx, x0, opt_some, lN hn.sh, bind_ok, adL (by rw [List.length_cons]; omega), opt_some, x2, opt_some]
    rw [l_arg 60 64 (by decide) _ _ ha (by omega), bind_ok, adL (by simp only [List.length_append, List.length_cons]; omega), opt_some, List.append_assoc]
theorem l_parts {d : D} {cs : List Int} (h : PartsP d cs) (hf : cs.length ≤ sizeLine) : m__law_written d = .ok (.list (I cs)) := by
  obtain ⟨dn, cn, di, ci, dr, cr, db, cb, de, ce, hn, hi, hr, hb, he, e1, e2⟩ := h
  subst e1; subst e2
  simp only [List.length_append, List.length_cons, List.length_nil] at hf
  obtain ⟨ds1, rows1, ha1, hl1, e3, e4⟩ := hi
  subst e3; subst e4
  obtain ⟨ds2, rows2, ha2, hl2, e3, e4⟩ := hr
  subst e3; subst e4
  obtain ⟨ds3, rows3, ha3, hl3, e3, e4⟩ := hb
  subst e3; subst e4
  obtain ⟨ds4, rows4, ha4, hl4, e3, e4⟩ := he
  subst e3; subst e4
  simp only [List.length_cons] at hf
  unfold m__law_written
  rw [x0, opt_some, lN hn.sh, bind_ok, show (PyData.list [(.int 79), (.int 82), (.int 77), (.int 49)]) = .list (I [79, 82, 77, 49]) from rfl, adL (by simp only [List.length_cons, List.length_nil]; omega), opt_some, x1, opt_some, seq_t, opt_some]
  rw [lc_l (l := m__law_written_name) (P := NameP) (fun d cs h _ => lN h.sh) ha1 (by omega) hl1 (B := b1__law_written) (fun y => rfl), bind2_ok, l_rows ha1 (by omega), bind_ok, adL (by simp only [List.length_append, List.length_cons, List.length_nil]; omega), opt_some, x2, opt_some, seq_t, opt_some]
  rw [for_l l_rule ha2 (by omega) hl2 (B := b2__law_written) (fun y c => by
    unfold b2__law_written
    cases ixD y (.int 0) with
    | none => rfl
    | some t =>
      simp only [R.opt]
      cases m__law_written_name t with
      | ok b =>
        simp only [R.bind]
        cases ixD y (.int 1) with
        | none => rfl
        | some u =>
          simp only
          cases m__law_written_terms u with
          | ok e =>
            simp only
            cases addD b e with
            | none => rfl
            | some g =>
              simp only
              cases ixD y (.int 2) with
              | none => rfl
              | some v =>
                simp only
                cases m__law_written_term 24 v with
                | ok h =>
                  simp only
                  cases addD g h <;> rfl
                | exc x => rfl
                | stuck => rfl
          | exc x => rfl
          | stuck => rfl
      | exc x => rfl
      | stuck => rfl), bind_ok, nxK_nx, x3, opt_some, seq_t, opt_some]
  rw [for_l l_block ha3 (by omega) hl3 (B := b4__law_written) (fun y c => by
    unfold b4__law_written
    cases ixD y (.int 0) with
    | none => rfl
    | some t =>
      simp only [R.opt]
      cases intD [t] with
      | none => rfl
      | some i =>
        simp only
        cases ixD y (.int 1) with
        | none => rfl
        | some u =>
          simp only
          cases seqD u with
          | none => rfl
          | some l =>
            simp only [R.bind2, R.bind]
            cases lcL b3__law_written l () [] with
            | ok e =>
              simp only
              cases m__law_written_list (.list e.1) with
              | ok g =>
                simp only
                cases addD (.list [i]) g <;> rfl
              | exc x => rfl
              | stuck => rfl
            | exc x => rfl
            | stuck => rfl), bind_ok, nxK_nx, x4, opt_some, seq_t, opt_some]
  rw [for_l l_entry ha4 (by omega) hl4 (B := b5__law_written) (fun y c => by
    unfold b5__law_written
    generalize (R.opt (ixD y (.int 1)) fun z53 => R.ite (some (isNoneD z53)) _ _ : R (Ct D)) = r
    cases r with
    | ok q =>
      cases q with
      | nx k =>
        simp only [R.bind, nxK]
        cases ixD y (.int 0) with
        | none => rfl
        | some t =>
          simp only [R.opt]
          cases m__law_written_name t with
          | ok b =>
            simp only
            cases addD b k with
            | none => rfl
            | some g =>
              simp only
              cases ixD y (.int 2) with
              | none => rfl
              | some u =>
                simp only
                cases m__law_written_argument 64 u with
                | ok e =>
                  simp only
                  cases addD g e <;> rfl
                | exc x => rfl
                | stuck => rfl
          | exc x => rfl
          | stuck => rfl
      | bk k => rfl
      | rt a k => rfl
    | exc x => rfl
    | stuck => rfl), bind_ok, nxK_nx]
  rw [l_rows ha2 (by omega), bind_ok, adL (by simp only [List.length_append, List.length_cons, List.length_nil]; omega), opt_some, l_rows ha3 (by omega), bind_ok, adL (by simp only [List.length_append, List.length_cons, List.length_nil]; omega), opt_some]
  rw [l_rows ha4 (by omega), bind_ok, adL (by simp only [List.length_append, List.length_cons, List.length_nil]; omega), opt_some]
  simp only [List.append_assoc, List.singleton_append, List.cons_append, List.nil_append]
end MX

set_option Elab.async false
set_option linter.all false
set_option maxRecDepth 100000
namespace MX
open PySem PySem.Spec PyProof.Rows L2

/-! ### read -/
/-- a loop of readers -/
theorem for_re {q : D × D → R D} {P : D → List Int → Prop} (hq : Re q P) {ns : List Int} (hns : ns.length ≤ sizeLine) {ds : List D} {rows : List (List Int)} (h : All2 P ds rows) (hd : ds.length ≤ 255) {B : D → D × List D → R (Ct (D × List D))}
    (hB : ∀ y c, B y c = R.bind (q (T ns, c.1)) fun b => R.opt2 (un2 b) fun u v => R.opt (apD c.2 u) fun z => .ok (.nx (v, z))) {p : Nat} (hr : Rd ns p rows.flatten) {n : Int} (hn : n = ds.length) : forL B (rngD 0 n) (.int p, []) = .ok (.nx (.int ((p + rows.flatten.length : Nat) : Int), ds)) := by
  have hb := sizeLine_eq
  have := for_rd (B := B) (st := fun p acc => ((.int p, acc) : D × List D)) (P := P) (ns := ns) (cap := 255) (fun y d cs p acc hp hr ha => by
    rw [hB]
    simp only
    rw [hq ns p d cs hns hp hr, bind_ok, un2_t, opt2_some, ap_ok (by omega), opt_some]) h (rngD 0 n) p [] (by rw [rng_len]; omega) (by rw [List.length_nil]; omega) hr
  rw [this, List.nil_append]
theorem re_rows {q : D × D → R D} {P : D → List Int → Prop} (hq : Re q P) {ns : List Int} (hns : ns.length ≤ sizeLine) {B : D → D × List D → R (Ct (D × List D))}
    (hB : ∀ y c, B y c = R.bind (q (T ns, c.1)) fun b => R.opt2 (un2 b) fun u v => R.opt (apD c.2 u) fun z => .ok (.nx (v, z))) {p : Nat} {d : D} {cs : List Int} (h : RowsC P d cs) (hr : Rd ns p cs) {β : Type} (K : D × List D → R β) :
    ∃ ds, d = .tuple ds ∧ (R.bind (m_number_at (T ns, .int p, (.int 0), (.int 255))) fun b1 => R.opt (addD (.int p) (.int 1)) fun z2 => R.opt2 (rg1 [b1]) fun i3 j4 => R.bind (forL B (rngD i3 j4) (z2, [])) (nxK K)) = K (.int ((p + cs.length : Nat) : Int), ds) := by
  obtain ⟨ds, rows, ha, h2, e1, e2⟩ := h
  subst e1; subst e2
  refine ⟨ds, rfl, ?_⟩
  rw [r_num hr.hd (by omega) (by omega), bind_ok, add_1, opt_some, rg1_ok (by omega), opt2_some, for_re hq hns ha h2 hB hr.tl rfl, bind_ok, nxK_nx, List.length_cons]
  rw [show p + 1 + rows.flatten.length = p + (rows.flatten.length + 1) by omega]
theorem r_rows {q : D × D → R D} {P : D → List Int → Prop} (hq : Re q P) : Re (m_read_rows q) (RowsC P) := by
  intro ns p d cs hns h hr
  obtain ⟨ds, e, z⟩ := re_rows hq hns (B := b1_read_rows q (T ns, .int p)) (fun y c => rfl) h hr (β := D) (fun c11 => R.opt (tupleD [(.list c11.2)]) fun z12 => .ok (.tuple [z12, c11.1]))
  subst e
  unfold m_read_rows
  simp only
  rw [z]
  rfl
theorem r_atoms : Re m_read_atoms (RowsC At) := by
  intro ns p d cs hns h hr
  obtain ⟨ds, e, z⟩ := re_rows r_at hns (B := b1_read_atoms (T ns, .int p)) (fun y c => rfl) h hr (β := D) (fun c11 => R.opt (tupleD [(.list c11.2)]) fun z12 => .ok (.tuple [z12, c11.1]))
  subst e
  unfold m_read_atoms
  simp only
  rw [z]
  rfl
theorem lc_nums {ns : List Int} {p : Nat} : ∀ (ms : List Int) (i : Nat) (acc : List D), (∀ m ∈ ms, 0 ≤ m ∧ m ≤ 255) → Rd ns (p + 1 + i) ms → acc.length + ms.length ≤ 1000 → ∀ j : Int, j = i + ms.length → lcL (b1_read_numbers (T ns, .int p)) (rngD i j) () acc = .ok (acc ++ I ms, ())
  | [], i, acc, _, _, _, j, hj => by
    rw [rng_nil (by simp at hj; omega)]
    simp [lcL, I]
  | m :: ms, i, acc, hm, hr, hl, j, hj => by
    have hb := sizeLine_eq
    rw [List.length_cons] at hl hj
    rw [rng_cons (by omega)]
    have eB : b1_read_numbers (T ns, .int p) (.int i) () = .ok (.int m, ()) := by
      unfold b1_read_numbers
      simp only
      rw [add_1, opt_some, add_n, opt_some, r_num hr.hd (hm m (List.Mem.head _)).1 (hm m (List.Mem.head _)).2, bind_ok]
    show R.bind (noX (b1_read_numbers (T ns, .int p) (.int i) ())) _ = _
    rw [eB]
    show (if acc.length < sizeLine then lcL (b1_read_numbers (T ns, .int p)) (rngD (i + 1) j) () (acc ++ [.int m]) else .stuck) = _
    rw [if_pos (by omega), show ((i : Int) + 1) = ((i + 1 : Nat) : Int) by omega]
    refine (lc_nums ms (i + 1) (acc ++ [.int m]) (fun q hq => hm q (List.Mem.tail _ hq)) (by rw [← Nat.add_assoc]; exact hr.tl) (by rw [List.length_append, List.length_singleton]; omega) j (by omega)).trans ?_
    rw [List.append_assoc]
    rfl
theorem r_nums : Re m_read_numbers NumsP := by
  intro ns p d cs hns ⟨ms, hm, h2, e1, e2⟩ hr
  subst e1; subst e2
  have hb := sizeLine_eq
  unfold m_read_numbers
  simp only
  have z := lc_nums (ns := ns) (p := p) ms 0 [] hm hr.tl (by rw [List.length_nil]; omega) (ms.length : Int) (by omega)
  rw [r_num hr.hd (by omega) (by omega), bind_ok, rg1_ok (by omega), opt2_some, show (0 : Int) = ((0 : Nat) : Int) from rfl, z, bind2_ok, tup_l, opt_some, add_1, opt_some, add_n, opt_some, List.nil_append, List.length_cons]
  rw [show p + 1 + ms.length = p + (ms.length + 1) by omega]
theorem r_rule : Re m_read_rule RuleP := by
  intro ns p d cs hns ⟨dn, cn, dp, cp, dc, cc, hn, hp, hc, e1, e2⟩ hr
  subst e1; subst e2
  unfold m_read_rule
  simp only
  rw [rN hns hn hr.left, bind_ok, un2_t, opt2_some, r_atoms ns _ _ _ hns hp hr.right.left, bind_ok, un2_t, opt2_some, r_at ns _ _ _ hns hc hr.right.right, bind_ok, un2_t, opt2_some]
  simp only [List.length_append, Nat.add_assoc]
theorem r_claim : Re m_read_claim ClaimP := by
  intro ns p d cs hns ⟨dn, cn, u, dp, cp, dd, cd, di, ci, hn, hu, hp, hd, hi, e1, e2⟩ hr
  subst e1; subst e2
  unfold m_read_claim
  simp only
  have hr1 := hr.right
  have hr2 := hr1.tl
  have hr3 := hr2.right
  rw [rN hns hn hr.left, bind_ok, un2_t, opt2_some, r_num hr1.hd hu.1 hu.2, bind_ok, add_1, opt_some, r_atoms ns _ _ _ hns hp hr2.left, bind_ok, un2_t, opt2_some]
  obtain ⟨ds, e, z⟩ := re_rows r_atoms hns (B := b1_read_claim (T ns, .int p)) (fun y c => rfl) hd hr3.left (β := D) (fun (c19 : D × List D) =>
  R.bind (m_read_numbers (T ns, c19.1)) fun b20 =>
  R.opt2 (un2 b20) fun u21 u22 =>
  R.opt (tupleD [(.list c19.2)]) fun z23 =>
  .ok (.tuple [(.tuple [dn, (.tuple [.int u, dp, z23]), u21]), u22]))
  subst e
  rw [z]
  simp only
  rw [r_nums ns _ _ _ hns hi hr3.right, bind_ok, un2_t, opt2_some, tup_l, opt_some]
  simp only [List.length_append, List.length_cons]
  rw [show p + cn.length + 1 + cp.length + cd.length + ci.length = p + (cn.length + (cp.length + (cd.length + ci.length) + 1)) by omega]
theorem r_block : Re m_read_block BlockP := by
  intro ns p d cs hns ⟨b, ds, rows, ha, h1, h2, e1, e2⟩ hr
  subst e1; subst e2
  have hb := sizeLine_eq
  unfold m_read_block
  simp only
  rw [r_num hr.hd (by cases b <;> decide) (by cases b <;> decide), bind_ok, eq_i, show ((if b = true then (1 : Int) else 0) == 1) = b by cases b <;> rfl, opt_some, add_1, opt_some, r_num hr.tl.hd (by omega) (by omega), bind_ok, add_2, opt_some, rg1_ok (by omega), opt2_some]
  rw [for_re r_claim hns ha h2 (B := b1_read_block (T ns, .int p)) (fun y c => rfl) hr.tl.tl rfl, bind_ok, nxK_nx, tup_l, opt_some]
  simp only [List.length_cons]
  rw [show p + 1 + 1 + rows.flatten.length = p + (rows.flatten.length + 1 + 1) by omega]
theorem word_at {k : Nat} {x : String} (h : ([.str "", .str "done", .str "rule", .str "apply", .str "invert"] : List D)[k]? = some (.str x)) : ixD cSTEP_WORDS (.int k) = some (.str x) := ix_t h
theorem r_step : Re m_read_step StepP := by
  intro ns p d cs hns h hr
  unfold m_read_step
  simp only
  rcases h with ⟨k, hk, e1, e2⟩ | ⟨k, dt, ct, hk, ht, e1, e2⟩ | ⟨b, dn, cn, dt, ct, dm, cm, hn, ht, hm, e1, e2⟩
  · subst e1; subst e2
    rw [r_num hr.hd (by decide) (by decide), bind_ok, show (PyData.int 4) = .int ((4 : Nat) : Int) from rfl, word_at (x := "invert") rfl, opt_some, k_inv, ite_t, add_1, opt_some, r_num hr.tl.hd hk.1 hk.2, bind_ok, add_2, opt_some]
    rfl
  · subst e1; subst e2
    rw [r_num hr.hd (by decide) (by decide), bind_ok, show (PyData.int 1) = .int ((1 : Nat) : Int) from rfl, word_at (x := "done") rfl, opt_some, k_done_inv, ite_f, k_done, ite_t]
    rw [show addD (.int p) (.int ((1 : Nat) : Int)) = some (.int ((p + 1 : Nat) : Int)) from rfl, opt_some, r_num hr.tl.hd hk.1 hk.2, bind_ok, add_2, opt_some, r_terms ns _ _ _ hns ht hr.tl.tl, bind_ok, un2_t, opt2_some]
    simp only [List.length_cons]
    rw [show p + 2 + ct.length = p + (ct.length + 1 + 1) by omega]
  · subst e1; subst e2
    rw [r_num hr.hd (by cases b <;> decide) (by cases b <;> decide), bind_ok, show ixD cSTEP_WORDS (.int (if b = true then 3 else 2)) = some (.str (rw_ b)) from by
      cases b
      · exact word_at (k := 2) (x := "rule") rfl
      · exact word_at (k := 3) (x := "apply") rfl, opt_some, k_rw_inv, ite_f, k_rw_done, ite_f, add_1, opt_some, rN hns hn hr.tl.left, bind_ok, un2_t, opt2_some, r_terms ns _ _ _ hns ht hr.tl.right.left, bind_ok, un2_t, opt2_some]
    rw [r_nums ns _ _ _ hns hm hr.tl.right.right, bind_ok, un2_t, opt2_some, str_if]
    simp only [List.length_cons, List.length_append]
    rw [show p + 1 + cn.length + ct.length + cm.length = p + (cn.length + (ct.length + cm.length) + 1) by omega]
theorem r_label : Re m_read_label LabelP := by
  intro ns p d cs hns ⟨x, hx, e1, e2⟩ hr
  subst e1; subst e2
  have hb := sizeLine_eq
  unfold m_read_label
  simp only
  rcases hx with hx | hx
  · have h1 := hx.ne
    have h2 := hx.le
    rw [r_num hr.hd (by omega) (by omega), bind_ok, eq_i, show ((x.length : Int) == 0) = false by simp; omega, ite_f, r_name hns hx hr, bind_ok]
  · subst hx
    have e : strC "" = [0] := by decide +kernel
    rw [e] at hr
    rw [r_num hr.hd (by decide) (by decide), bind_ok, eq_i, show ((0 : Int) == 0) = true from rfl, ite_t, add_1, opt_some, e]
    rfl
theorem r_arg {ns : List Int} (hns : ns.length ≤ sizeLine) : ∀ (n k : Nat) (e : Int), n ≤ k → n + e = 61 → 1 ≤ e → ∀ (p : Nat) (d : D) (cs : List Int), ArgP n d cs → Rd ns p cs → m_read_argument k (T ns, .int p, .int e) = .ok (.tuple [d, .int ((p + cs.length : Nat) : Int)])
  | 0, k, _, _, _, _ => fun _ _ _ h _ => h.elim
  | n + 1, 0, _, h, _, _ => absurd h (by omega)
  | n + 1, k + 1, e, h, he, h1 => fun p d cs ⟨dst, cst, ds, rows, hs, ha, h2, e1, e2⟩ hr => by
    subst e1; subst e2
    have hb := sizeLine_eq
    show g_read_argument (m_read_argument k) (T ns, .int p, .int e) = _
    unfold g_read_argument
    simp only
    rw [r_step ns _ _ _ hns hs hr.left, bind_ok, un2_t, opt2_some]
    obtain ⟨most, hm, hm1, hm2⟩ : ∃ most : Int, (R.ite (eqD (.int e) (.int 60)) (.ok (.nx (.int 0))) (.ok (.nx (.int 255))) : R (Ct D)) = .ok (.nx (.int most)) ∧ 0 ≤ most ∧ (n ≠ 0 → most = 255) := by
      rw [eq_i]
      by_cases q : e = 60
      · exact ⟨0, by rw [show (e == 60) = true by simpa using q, ite_t], by decide, fun z => by omega⟩
      · exact ⟨255, by rw [show (e == 60) = false by simpa using q, ite_f], by decide, fun _ => rfl⟩
    rw [hm, bind_ok, nxK_nx]
    have hc : ((ds.length : Nat) : Int) ≤ most := by
      by_cases z : n = 0
      · subst z
        rw [t0 (P := PartP (ArgP 0)) (fun _ _ ⟨_, _, _, _, _, h, _⟩ => h) ha]
        simpa using hm1
      · rw [hm2 z]; omega
    rw [r_num hr.right.hd (by omega) hc, bind_ok, add_1, opt_some, rg1_ok (by omega), opt2_some]
    have := for_rd (B := b1_read_argument (m_read_argument k) (T ns, .int p, .int e)) (st := fun p acc => ((.int p, acc) : D × List D)) (P := PartP (ArgP n)) (ns := ns) (cap := 255) (fun y d cs p acc hp hr hl => by
      obtain ⟨dl, cl, da, ca, hL, hA, e1, e2⟩ := hp
      subst e1; subst e2
      unfold b1_read_argument
      simp only
      rw [r_label ns _ _ _ hns hL hr.left, bind_ok, un2_t, opt2_some, add_i, opt_some, r_arg hns n k (e + 1) (by omega) (by omega) (by omega) _ _ _ hA hr.right, bind_ok, un2_t, opt2_some, ap_ok (by omega), opt_some, List.length_append, Nat.add_assoc]) ha (rngD 0 ds.length) (p + cst.length + 1) [] (by rw [rng_len]; omega) (by rw [List.length_nil]; omega) hr.right.tl
    rw [this, bind_ok, nxK_nx, List.nil_append, tup_l, opt_some]
    simp only [List.length_append, List.length_cons]
    rw [show p + cst.length + 1 + rows.flatten.length = p + (cst.length + (rows.flatten.length + 1)) by omega]
theorem r_entry : Re m_read_entry EntryP := by
  intro ns p d cs hns ⟨dn, cn, dk, ck, da, ca, hn, hk, ha, e1, e2⟩ hr
  subst e1; subst e2
  unfold m_read_entry
  simp only
  have hr1 := hr.right
  rw [rN hns hn hr.left, bind_ok, un2_t, opt2_some]
  rcases hk with ⟨e3, e4⟩ | ⟨dk', ck', hk, e3, e4⟩
  · subst e3; subst e4
    rw [r_num hr1.hd (by decide) (by decide), bind_ok, eq_i, show ((0 : Int) == 1) = false from rfl, ite_f, add_1, opt_some, bind_ok, nxK_nx]
    rw [r_arg hns 60 64 1 (by decide) (by decide) (by decide) _ _ _ ha hr1.tl, bind_ok, un2_t, opt2_some]
    simp only [List.length_append, List.length_cons, List.length_nil]
    rw [show p + cn.length + 1 + ca.length = p + (cn.length + (0 + 1 + ca.length)) by omega]
  · subst e3; subst e4
    have hr2 : Rd ns (p + cn.length + 1) (ck' ++ ca) := hr1.tl
    rw [r_num hr1.hd (by decide) (by decide), bind_ok, eq_i, show ((1 : Int) == 1) = true from rfl, ite_t, add_1, opt_some, rN hns hk hr2.left, bind_ok, un2_t, opt2_some, bind_ok, nxK_nx]
    rw [r_arg hns 60 64 1 (by decide) (by decide) (by decide) _ _ _ ha hr2.right, bind_ok, un2_t, opt2_some]
    simp only [List.length_append, List.length_cons]
    rw [show p + cn.length + 1 + ck'.length + ca.length = p + (cn.length + (ck'.length + 1 + ca.length)) by omega]
theorem r_parts {d : D} {cs : List Int} (h : PartsP d cs) (hf : cs.length ≤ sizeLine) : m_parts_of (T cs) = .ok d := by
  obtain ⟨dn, cn, di, ci, dr, cr, db, cb, de, ce, hn, hi, hr, hb, he, e1, e2⟩ := h
  have hs := sizeLine_eq
  have hall : Rd cs 0 cs := ⟨[], by simp⟩
  have hR : Rd cs 0 ([79, 82, 77, 49] ++ (cn ++ (ci ++ (cr ++ (cb ++ ce))))) := e2 ▸ hall
  have hlen : cs.length = 4 + (cn.length + (ci.length + (cr.length + (cb.length + ce.length)))) := by
    rw [e2]
    simp only [List.length_append, List.length_cons, List.length_nil]
  clear e2
  subst e1
  unfold m_parts_of
  rw [show lenD [cMAGIC] = some (.int 4) from rfl, opt_some, rg1_ok (by omega), opt2_some]
  have head : forL (b1_parts_of (T cs)) (rngD 0 4) () = .ok (.nx ()) := by
    rw [rng_cons (by decide), rng_cons (by decide), rng_cons (by decide), rng_cons (by decide), rng_nil (by decide)]
    have one : ∀ (k : Nat) (m : Int), ([.int 79, .int 82, .int 77, .int 49] : List D)[k]? = some (.int m) → cs[k]? = some m → b1_parts_of (T cs) (.int k) () = .ok (.nx ()) := fun k m h1 h2 => by
      unfold b1_parts_of
      rw [show ixD cMAGIC (.int k) = some (.int m) from ix_t h1, opt_some, opt_some, r_num h2 (by omega) (by omega), bind_ok]
    have hm := hR.left
    show R.bind (b1_parts_of (T cs) (.int ((0 : Nat) : Int)) ()) _ = _
    rw [one 0 79 rfl hm.hd]
    show R.bind (b1_parts_of (T cs) (.int ((1 : Nat) : Int)) ()) _ = _
    rw [one 1 82 rfl hm.tl.hd]
    show R.bind (b1_parts_of (T cs) (.int ((2 : Nat) : Int)) ()) _ = _
    rw [one 2 77 rfl hm.tl.tl.hd]
    show R.bind (b1_parts_of (T cs) (.int ((3 : Nat) : Int)) ()) _ = _
    rw [one 3 49 rfl hm.tl.tl.tl.hd]
    rfl
  have h1 : Rd cs 4 (cn ++ (ci ++ (cr ++ (cb ++ ce)))) := hR.right
  rw [head, bind_ok, nxK_nx, opt_some, show (PyData.int 4) = .int ((4 : Nat) : Int) from rfl, rN hf hn h1.left, bind_ok, un2_t, opt2_some]
  rw [r_rows (q := m_read_name) (P := NameP) (fun ns p d cs hns h hr => rN hns h hr) cs _ _ _ hf hi h1.right.left, bind_ok, un2_t, opt2_some]
  rw [r_rows r_rule cs _ _ _ hf hr h1.right.right.left, bind_ok, un2_t, opt2_some, r_rows r_block cs _ _ _ hf hb h1.right.right.right.left, bind_ok, un2_t, opt2_some, r_rows r_entry cs _ _ _ hf he h1.right.right.right.right, bind_ok, un2_t, opt2_some]
  rw [show lenD [T cs] = some (.int (cs.length : Int)) from by rw [← I_len cs]; exact len_t, opt_some]
  rw [show neD (.int ((4 + cn.length + ci.length + cr.length + cb.length + ce.length : Nat) : Int)) (.int (cs.length : Int)) = some false from by
    unfold neD
    rw [eq_i, hlen]
    simp only [Option.map_some, Nat.add_assoc, beq_self_eq_true]
    rfl, ite_f]
end MX

set_option Elab.async false
set_option linter.all false
set_option maxRecDepth 100000
namespace MX
open PySem PySem.Spec PyProof.Rows L2

/-! ### how long what repr says is -/
mutual
theorem Pl.mono : ∀ {k n : Nat} {d : D}, Pl k d n → ∀ {j m : Nat}, k ≤ j → n ≤ m → Pl j d m
  | _, _, _, .none h, _, _, _, l => .none (Nat.le_trans h l)
  | _, _, _, .bool h, _, _, _, l => .bool (Nat.le_trans h l)
  | _, _, _, .int hi h, _, _, _, l => .int hi (Nat.le_trans h l)
  | _, _, _, .str hx h, _, _, _, l => .str hx (Nat.le_trans h l)
  | _, _, _, .tup ha h, 0, _, kj, _ => absurd kj (by omega)
  | _, _, _, .tup ha h, j + 1, _, kj, l => .tup (ha.mono (Nat.le_of_succ_le_succ kj) (Nat.le_refl _)) (Nat.le_trans h l)
theorem PlA.mono : ∀ {k n : Nat} {ds : List D}, PlA k ds n → ∀ {j m : Nat}, k ≤ j → n ≤ m → PlA j ds m
  | _, _, _, .nil, _, _, _, _ => .nil
  | _, _, _, .cons p q h, _, _, kj, l => .cons (p.mono kj (Nat.le_refl _)) (q.mono kj (Nat.le_refl _)) (Nat.le_trans h l)
end
def Bd (k : Nat) (P : D → List Int → Prop) : Prop := ∀ d cs, P d cs → ∃ n, Pl k d n ∧ n + 8 ≤ 64 * cs.length
theorem Bd.mono {j k : Nat} {P : D → List Int → Prop} (h : Bd j P) (l : j ≤ k) : Bd k P := fun d cs p => by
  obtain ⟨n, h1, h2⟩ := h d cs p
  exact ⟨n, h1.mono l (Nat.le_refl _), h2⟩
theorem bd_all {k : Nat} {P : D → List Int → Prop} (h : Bd k P) {ds : List D} {rows : List (List Int)} (a : All2 P ds rows) : PlA k ds (64 * rows.flatten.length) := by
  induction a with
  | nil => exact .nil
  | cons p t ih =>
    obtain ⟨n, h1, h2⟩ := h _ _ p
    exact .cons h1 ih (by rw [List.flatten_cons, List.length_append]; omega)
theorem bd_str {x : Str} {k : Nat} (h : ∀ c ∈ x.cps.toList, c < 1114112) : Pl k (.str x) (10 * x.length + 2) := .str h (Nat.le_refl _)
theorem alN_lt {c : Nat} (h : AlN c) : c < 1114112 := by unfold AlN at h; omega
theorem bd_name {k : Nat} : Bd k NameP := fun d cs ⟨x, hx, e1, e2⟩ => by
  subst e1; subst e2
  exact ⟨_, bd_str fun c hc => alN_lt (hx.al c hc), by rw [strC_len]; omega⟩
theorem bd_label {k : Nat} : Bd k LabelP := fun d cs ⟨x, hx, e1, e2⟩ => by
  subst e1; subst e2
  refine ⟨_, bd_str fun c hc => ?_, by rw [strC_len]; omega⟩
  rcases hx with hx | hx
  · exact alN_lt (hx.al c hc)
  · subst hx; rw [show (Str.ofString "").cps.toList = [] from by decide +kernel] at hc; cases hc
theorem bd_node {k : Nat} {ok : Str → Nat → Prop} {P : D → List Int → Prop} (ho : ∀ x n, ok x n → ∀ c ∈ x.cps.toList, c < 1114112) (h : Bd k P) : Bd (k + 1) (Nd ok P) := fun d cs ⟨x, args, rows, hx, _, ha, _, e1, e2⟩ => by
  subst e1; subst e2
  refine ⟨_, .tup (.cons (bd_str (ho _ _ hx)) (bd_all h ha) (Nat.le_refl _)) (Nat.le_refl _), ?_⟩
  rw [List.length_cons, List.length_append, strC_len]
  omega
theorem bd_tm : ∀ n, Bd n (Tm n)
  | 0 => fun _ _ h => h.elim
  | n + 1 => fun d cs p => by
    rcases p with ⟨i, h0, h1, e1, e2⟩ | p
    · subst e1; subst e2
      exact ⟨6, .int (by omega) (Nat.le_refl _), by simp only [List.length_cons, List.length_nil]; omega⟩
    · exact bd_node (fun x _ hx c hc => alN_lt (hx.al c hc)) (bd_tm n) d cs p
theorem bd_at : Bd 20 At := bd_node (fun x _ hx c hc => by
  rcases hx with hx | ⟨hx, _⟩
  · exact alN_lt (hx.al c hc)
  · subst hx
    have : sEq.cps.toList = [61] := by decide +kernel
    rw [this] at hc
    simp at hc
    omega) (bd_tm 19)
theorem bd_rows {k : Nat} {P : D → List Int → Prop} (h : Bd k P) : Bd (k + 1) (RowsC P) := fun d cs ⟨ds, rows, ha, _, e1, e2⟩ => by
  subst e1; subst e2
  exact ⟨_, .tup (bd_all h ha) (Nat.le_refl _), by rw [List.length_cons]; omega⟩
theorem bd_ints {k : Nat} : ∀ ms : List Int, (∀ m ∈ ms, 0 ≤ m ∧ m ≤ 255) → PlA k (I ms) (8 * ms.length)
  | [], _ => .nil
  | m :: ms, h => .cons (.int (n := 6) (by have := h m (List.Mem.head _); omega) (Nat.le_refl _)) (bd_ints ms fun q hq => h q (List.Mem.tail _ hq)) (by rw [List.length_cons]; omega)
theorem bd_nums {k : Nat} : Bd (k + 1) NumsP := fun d cs ⟨ms, hm, _, e1, e2⟩ => by
  subst e1; subst e2
  exact ⟨_, .tup (bd_ints ms hm) (Nat.le_refl _), by rw [List.length_cons]; omega⟩
theorem bd_rule : Bd 22 RuleP := fun d cs ⟨dn, cn, dp, cp, dc, cc, hn, hp, hc, e1, e2⟩ => by
  subst e1; subst e2
  obtain ⟨a, h1, l1⟩ := bd_name (k := 21) _ _ hn
  obtain ⟨b, h2, l2⟩ := bd_rows bd_at _ _ hp
  obtain ⟨c, h3, l3⟩ := (bd_at.mono (by decide : 20 ≤ 21)) _ _ hc
  refine ⟨_, .tup (.cons h1 (.cons h2 (.cons h3 (PlA.nil (n := 0)) (Nat.le_refl _)) (Nat.le_refl _)) (Nat.le_refl _)) (Nat.le_refl _), ?_⟩
  rw [List.length_append, List.length_append]
  omega
theorem bd_claim : Bd 24 ClaimP := fun d cs ⟨dn, cn, u, dp, cp, dd, cd, di, ci, hn, hu, hp, hd, hi, e1, e2⟩ => by
  subst e1; subst e2
  obtain ⟨a, h1, l1⟩ := bd_name (k := 23) _ _ hn
  obtain ⟨b, h2, l2⟩ := ((bd_rows bd_at).mono (by decide : 21 ≤ 22)) _ _ hp
  obtain ⟨c, h3, l3⟩ := (bd_rows (bd_rows bd_at)) _ _ hd
  obtain ⟨e, h4, l4⟩ := (bd_nums (k := 22)) _ _ hi
  refine ⟨_, .tup (.cons h1 (.cons (.tup (.cons (.int (n := 6) (by omega) (Nat.le_refl _)) (.cons h2 (.cons h3 (PlA.nil (n := 0)) (Nat.le_refl _)) (Nat.le_refl _)) (Nat.le_refl _)) (Nat.le_refl _)) (.cons h4 (PlA.nil (n := 0)) (Nat.le_refl _)) (Nat.le_refl _)) (Nat.le_refl _)) (Nat.le_refl _), ?_⟩
  simp only [List.length_append, List.length_cons]
  omega
theorem bd_block : Bd 26 BlockP := fun d cs ⟨b, ds, rows, ha, _, _, e1, e2⟩ => by
  subst e1; subst e2
  refine ⟨_, .tup (.cons (.bool (n := 5) (Nat.le_refl _)) (.cons (.tup (bd_all bd_claim ha) (Nat.le_refl _)) (PlA.nil (n := 0)) (Nat.le_refl _)) (Nat.le_refl _)) (Nat.le_refl _), ?_⟩
  simp only [List.length_cons]
  omega
theorem bd_word {k : Nat} {x : String} (h : ((x : Str).cps.toList.all fun c => decide (c < 1114112)) = true) (hl : (x : Str).length ≤ 6) : Pl k (.str x) 62 := .str (fun c hc => of_decide_eq_true (List.all_eq_true.mp h c hc)) (by omega)
theorem bd_step : Bd 22 StepP := fun d cs h => by
  rcases h with ⟨k, hk, e1, e2⟩ | ⟨k, dt, ct, hk, ht, e1, e2⟩ | ⟨b, dn, cn, dt, ct, dm, cm, hn, ht, hm, e1, e2⟩
  · subst e1; subst e2
    exact ⟨_, .tup (.cons (bd_word (by decide +kernel) (by decide +kernel)) (.cons (.int (n := 6) (by omega) (Nat.le_refl _)) (PlA.nil (n := 0)) (Nat.le_refl _)) (Nat.le_refl _)) (Nat.le_refl _), by simp only [List.length_cons, List.length_nil]; omega⟩
  · subst e1; subst e2
    obtain ⟨a, h1, l1⟩ := (bd_rows (bd_tm 20)) _ _ ht
    exact ⟨_, .tup (.cons (bd_word (by decide +kernel) (by decide +kernel)) (.cons (.int (n := 6) (by omega) (Nat.le_refl _)) (.cons h1 (PlA.nil (n := 0)) (Nat.le_refl _)) (Nat.le_refl _)) (Nat.le_refl _)) (Nat.le_refl _), by simp only [List.length_cons]; omega⟩
  · subst e1; subst e2
    obtain ⟨a, h1, l1⟩ := bd_name (k := 21) _ _ hn
    obtain ⟨c, h2, l2⟩ := (bd_rows (bd_tm 20)) _ _ ht
    obtain ⟨e, h3, l3⟩ := (bd_nums (k := 20)) _ _ hm
    have hw : Pl 21 (.str (if b then "apply" else "rule")) 62 := by cases b <;> exact bd_word (by decide +kernel) (by decide +kernel)
    exact ⟨_, .tup (.cons hw (.cons h1 (.cons h2 (.cons h3 (PlA.nil (n := 0)) (Nat.le_refl _)) (Nat.le_refl _)) (Nat.le_refl _)) (Nat.le_refl _)) (Nat.le_refl _), by simp only [List.length_cons, List.length_append]; omega⟩
theorem bd_part {k : Nat} {P : D → List Int → Prop} (h : Bd k P) : Bd (k + 1) (PartP P) := fun d cs ⟨dl, cl, da, ca, hl, hA, e1, e2⟩ => by
  subst e1; subst e2
  obtain ⟨a, h1, l1⟩ := bd_label (k := k) _ _ hl
  obtain ⟨b, h2, l2⟩ := h _ _ hA
  exact ⟨_, .tup (.cons h1 (.cons h2 (PlA.nil (n := 0)) (Nat.le_refl _)) (Nat.le_refl _)) (Nat.le_refl _), by rw [List.length_append]; omega⟩
theorem bd_arg : ∀ n, Bd (24 + 3 * n) (ArgP n)
  | 0 => fun _ _ h => h.elim
  | n + 1 => fun d cs ⟨dst, cst, ds, rows, hs, ha, _, e1, e2⟩ => by
    subst e1; subst e2
    obtain ⟨a, h1, l1⟩ := (bd_step.mono (by omega : 22 ≤ 24 + 3 * n + 2)) _ _ hs
    refine ⟨_, .tup (k := 24 + 3 * n + 2) (.cons h1 (.cons (.tup (bd_all (bd_part (bd_arg n)) ha) (Nat.le_refl _)) (PlA.nil (n := 0)) (Nat.le_refl _)) (Nat.le_refl _)) (Nat.le_refl _), ?_⟩
    simp only [List.length_append, List.length_cons]
    omega
theorem bd_entry : Bd 205 EntryP := fun d cs ⟨dn, cn, dk, ck, da, ca, hn, hk, ha, e1, e2⟩ => by
  subst e1; subst e2
  obtain ⟨a, h1, l1⟩ := bd_name (k := 204) _ _ hn
  obtain ⟨b, h2, l2⟩ := bd_arg 60 _ _ ha
  obtain ⟨c, h3, l3⟩ : ∃ c, Pl 204 dk c ∧ c + 8 ≤ 64 * ck.length := by
    rcases hk with ⟨e1, e2⟩ | ⟨dk', ck', hk, e1, e2⟩
    · subst e1; subst e2
      exact ⟨4, .none (Nat.le_refl _), by simp only [List.length_cons, List.length_nil]; omega⟩
    · subst e1; subst e2
      obtain ⟨c, h3, l3⟩ := bd_name (k := 204) _ _ hk
      exact ⟨c, h3, by rw [List.length_cons]; omega⟩
  refine ⟨_, .tup (.cons h1 (.cons h3 (.cons h2 (PlA.nil (n := 0)) (Nat.le_refl _)) (Nat.le_refl _)) (Nat.le_refl _)) (Nat.le_refl _), ?_⟩
  rw [List.length_append, List.length_append]
  omega
theorem bd_parts : Bd 207 PartsP := fun d cs ⟨dn, cn, di, ci, dr, cr, db, cb, de, ce, hn, hi, hr, hb, he, e1, e2⟩ => by
  subst e1; subst e2
  obtain ⟨a, h1, l1⟩ := bd_name (k := 206) _ _ hn
  obtain ⟨b, h2, l2⟩ := (bd_rows (bd_name (k := 205))) _ _ hi
  obtain ⟨c, h3, l3⟩ := ((bd_rows bd_rule).mono (by decide : 23 ≤ 206)) _ _ hr
  obtain ⟨e, h4, l4⟩ := ((bd_rows bd_block).mono (by decide : 27 ≤ 206)) _ _ hb
  obtain ⟨f, h5, l5⟩ := (bd_rows bd_entry) _ _ he
  refine ⟨_, .tup (.cons h1 (.cons h2 (.cons h3 (.cons h4 (.cons h5 (PlA.nil (n := 0)) (Nat.le_refl _)) (Nat.le_refl _)) (Nat.le_refl _)) (Nat.le_refl _)) (Nat.le_refl _)) (Nat.le_refl _), ?_⟩
  simp only [List.length_append]
  omega
/-! ### the law's comparison -/
theorem alike_same {ds : List D} {n k : Nat} (h : Pl k (.tuple ds) n) (hk : k ≤ 300) (hn : n ≤ sizeLine) : m__law_alike (.tuple ds, .tuple ds) = .ok true := by
  obtain ⟨h1, h2, h3, h4, h5⟩ := h.facts
  unfold m__law_alike
  simp only
  rw [show isTupD (.tuple ds) = true from rfl, opt_some, tru_b, ite_t, opt_some, tru_b, ite_t, bif_f, show isIntD (.tuple ds) = false from rfl, opt_some, tru_b, ite_f, bif_f]
  have e : eqD (.tuple ds) (.tuple ds) = some true := by
    show eqG _ _ = _
    unfold eqG
    rw [if_pos ⟨h3, h3, by omega⟩, SeqAt.eqv_refl _ h3]
  have r : reprD [.tuple ds] = some (.str (PyData.tuple ds).shown) := if_pos ⟨rfl, h1, h2, by omega, by omega⟩
  rw [e, opt_some, r]
  show R.opt (some _) _ = _
  simp only [opt_some, eq_s]
  simp
theorem byte_codes {P : D → List Int → Prop} (h : ∀ d cs, P d cs → ∀ c ∈ cs, 0 ≤ c ∧ c ≤ 255) {ds : List D} {rows : List (List Int)} (a : All2 P ds rows) : ∀ c ∈ rows.flatten, 0 ≤ c ∧ c ≤ 255 := by
  induction a with
  | nil => intro c hc; cases hc
  | cons p t ih =>
    intro c hc
    rw [List.flatten_cons, List.mem_append] at hc
    exact hc.elim (h _ _ p c) (ih c)
def By (P : D → List Int → Prop) : Prop := ∀ d cs, P d cs → ∀ c ∈ cs, 0 ≤ c ∧ c ≤ 255
theorem by_app {a b : List Int} (h1 : ∀ c ∈ a, 0 ≤ c ∧ c ≤ 255) (h2 : ∀ c ∈ b, 0 ≤ c ∧ c ≤ 255) : ∀ c ∈ a ++ b, 0 ≤ c ∧ c ≤ 255 := fun c hc => (List.mem_append.mp hc).elim (h1 c) (h2 c)
theorem by_cons {a : Int} {b : List Int} (h1 : 0 ≤ a ∧ a ≤ 255) (h2 : ∀ c ∈ b, 0 ≤ c ∧ c ≤ 255) : ∀ c ∈ a :: b, 0 ≤ c ∧ c ≤ 255 := fun c hc => by
  rcases List.mem_cons.mp hc with e | e
  · subst e; exact h1
  · exact h2 c e
theorem by_nil : ∀ c ∈ ([] : List Int), 0 ≤ c ∧ c ≤ 255 := fun c hc => by cases hc
theorem by_strC {x : Str} (hl : x.length ≤ 16) (h : ∀ c ∈ x.cps.toList, c ≤ 255) : ∀ c ∈ strC x, 0 ≤ c ∧ c ≤ 255 := by
  refine by_cons (by omega) fun c hc => ?_
  obtain ⟨n, hn, e⟩ := List.mem_map.mp hc
  have := h n hn
  omega
theorem alN_le {c : Nat} (h : AlN c) : c ≤ 255 := by unfold AlN at h; omega
theorem by_name : By NameP := fun d cs ⟨x, hx, e1, e2⟩ => by
  subst e2
  exact by_strC hx.le fun c hc => alN_le (hx.al c hc)
theorem by_label : By LabelP := fun d cs ⟨x, hx, e1, e2⟩ => by
  subst e2
  rcases hx with hx | hx
  · exact by_strC hx.le fun c hc => alN_le (hx.al c hc)
  · subst hx
    exact by_strC (by decide) fun c hc => by rw [show (Str.ofString "").cps.toList = [] from by decide +kernel] at hc; cases hc
theorem by_node {ok : Str → Nat → Prop} {P : D → List Int → Prop} (ho : ∀ x n, ok x n → ∀ c ∈ x.cps.toList, c ≤ 255) (h : By P) : By (Nd ok P) := fun d cs ⟨x, args, rows, hx, hl, ha, h8, e1, e2⟩ => by
  subst e2
  exact by_cons (by omega) (by_app (by_strC hl (ho _ _ hx)) (byte_codes h ha))
theorem by_tm : ∀ n, By (Tm n)
  | 0 => fun _ _ h => h.elim
  | n + 1 => fun d cs p => by
    rcases p with ⟨i, h0, h1, e1, e2⟩ | p
    · subst e2
      exact by_cons (by decide) (by_cons (by omega) (by_cons (by omega) by_nil))
    · exact by_node (fun x _ hx c hc => alN_le (hx.al c hc)) (by_tm n) d cs p
theorem by_at : By At := by_node (fun x _ hx c hc => by
  rcases hx with hx | ⟨hx, _⟩
  · exact alN_le (hx.al c hc)
  · subst hx
    rw [show sEq.cps.toList = [61] from by decide +kernel] at hc
    simp at hc
    omega) (by_tm 19)
theorem by_rows {P : D → List Int → Prop} (h : By P) : By (RowsC P) := fun d cs ⟨ds, rows, ha, hl, e1, e2⟩ => by
  subst e2
  exact by_cons (by omega) (byte_codes h ha)
theorem by_nums : By NumsP := fun d cs ⟨ms, hm, hl, e1, e2⟩ => by
  subst e2
  exact by_cons (by omega) hm
theorem by_rule : By RuleP := fun d cs ⟨dn, cn, dp, cp, dc, cc, hn, hp, hc, e1, e2⟩ => by
  subst e2
  exact by_app (by_name _ _ hn) (by_app (by_rows by_at _ _ hp) (by_at _ _ hc))
theorem by_claim : By ClaimP := fun d cs ⟨dn, cn, u, dp, cp, dd, cd, di, ci, hn, hu, hp, hd, hi, e1, e2⟩ => by
  subst e2
  exact by_app (by_name _ _ hn) (by_cons hu (by_app (by_rows by_at _ _ hp) (by_app (by_rows (by_rows by_at) _ _ hd) (by_nums _ _ hi))))
theorem by_block : By BlockP := fun d cs ⟨b, ds, rows, ha, _, hl, e1, e2⟩ => by
  subst e2
  exact by_cons (by cases b <;> decide) (by_cons (by omega) (byte_codes by_claim ha))
theorem by_step : By StepP := fun d cs h => by
  rcases h with ⟨k, hk, e1, e2⟩ | ⟨k, dt, ct, hk, ht, e1, e2⟩ | ⟨b, dn, cn, dt, ct, dm, cm, hn, ht, hm, e1, e2⟩
  · subst e2; exact by_cons (by decide) (by_cons hk by_nil)
  · subst e2; exact by_cons (by decide) (by_cons hk (by_rows (by_tm 20) _ _ ht))
  · subst e2; exact by_cons (by cases b <;> decide) (by_app (by_name _ _ hn) (by_app (by_rows (by_tm 20) _ _ ht) (by_nums _ _ hm)))
theorem by_arg : ∀ n, By (ArgP n)
  | 0 => fun _ _ h => h.elim
  | n + 1 => fun d cs ⟨dst, cst, ds, rows, hs, ha, hl, e1, e2⟩ => by
    subst e2
    exact by_app (by_step _ _ hs) (by_cons (by omega) (byte_codes (P := PartP (ArgP n)) (fun d cs ⟨dl, cl, da, ca, hl, hA, e1, e2⟩ => by
      subst e2
      exact by_app (by_label _ _ hl) (by_arg n _ _ hA)) ha))
theorem by_entry : By EntryP := fun d cs ⟨dn, cn, dk, ck, da, ca, hn, hk, ha, e1, e2⟩ => by
  subst e2
  refine by_app (by_name _ _ hn) (by_app ?_ (by_arg 60 _ _ ha))
  rcases hk with ⟨e1, e2⟩ | ⟨dk', ck', hk, e1, e2⟩
  · subst e2; exact by_cons (by decide) by_nil
  · subst e2; exact by_cons (by decide) (by_name _ _ hk)
theorem by_parts : By PartsP := fun d cs ⟨dn, cn, di, ci, dr, cr, db, cb, de, ce, hn, hi, hr, hb, he, e1, e2⟩ => by
  subst e2
  exact by_app (by_cons (by decide) (by_cons (by decide) (by_cons (by decide) (by_cons (by decide) by_nil)))) (by_app (by_name _ _ hn) (by_app (by_rows by_name _ _ hi) (by_app (by_rows by_rule _ _ hr) (by_app (by_rows by_block _ _ hb) (by_rows by_entry _ _ he)))))
/-- THE CENTRE: parts that are written so are written and read -/
theorem parts_ok {d : D} {cs : List Int} (h : PartsP d cs) (hf : cs.length ≤ 200000) : (R.bind (m__law_written d) fun b28 => R.opt (tupleD [b28]) fun z29 => R.bind (m_numbers_of d) fun b30 => R.bind (m__law_alike (b30, z29)) fun b31 => bif b31 then (R.bind (m_parts_of z29) fun b32 => R.bind (m__law_alike (b32, d)) fun b33 => .ok b33) else (.ok false)) = .ok true := by
  have hs := sizeLine_eq
  rw [l_parts h (by omega), bind_ok, tup_l, opt_some, w_parts h (by omega), bind_ok]
  have a1 : m__law_alike (T cs, .tuple (I cs)) = .ok true := alike_same (.tup (k := 0) (bd_ints cs (by_parts _ _ h)) (Nat.le_refl _)) (by omega) (by omega)
  rw [a1, bind_ok]
  show (R.bind (m_parts_of (T cs)) _) = _
  rw [r_parts h (by omega), bind_ok]
  obtain ⟨n, hp, hl⟩ := bd_parts _ _ h
  obtain ⟨dn, cn, di, ci, dr, cr, db, cb, de, ce, hn, hi, hr, hb, he, e1, e2⟩ := h
  subst e1
  rw [alike_same hp (by decide) (by omega), bind_ok]
end MX

set_option Elab.async false
set_option linter.all false
set_option maxRecDepth 100000
namespace MX
open PySem PySem.Spec PyProof.Rows L2

/-! ### the tape -/
def TapeOk (tp : List D) : Prop := ∃ (ns : List Int) (p : Nat) (b t : Int), tp = [.list (I ns), .int p, .int b, .int t] ∧ 0 ≤ b ∧ 0 ≤ t
section
variable {a b c d x : D} {l : List D}
theorem lx0 : ixD (.list (a :: l)) (.int 0) = some a := ix_l (n := 0) rfl
theorem lx1 : ixD (.list (a :: b :: l)) (.int 1) = some b := ix_l (n := 1) rfl
theorem lx2 : ixD (.list (a :: b :: c :: l)) (.int 2) = some c := ix_l (n := 2) rfl
theorem lx3 : ixD (.list (a :: b :: c :: d :: l)) (.int 3) = some d := ix_l (n := 3) rfl
theorem st1 : stD [a, b, c, d] (.int 1) x = some [a, x, c, d] := rfl
theorem st2 : stD [a, b, c, d] (.int 2) x = some [a, b, x, d] := rfl
theorem st3 : stD [a, b, c, d] (.int 3) x = some [a, b, c, x] := rfl
end
theorem max_i {a b : Int} : maxD [.int a, .int b] = some (.int (if b > a then b else a)) := rfl
theorem abs_i {a : Int} : absD [.int a] = some (.int (if a < 0 then -a else a)) := rfl
theorem pow18 : powD (.int 10) (.int 18) = some (.int 1000000000000000000) := by
  show (if (0 : Int) ≤ 18 ∧ (18 : Int) ≤ 1000000 ∧ (10 : Int).natAbs < 2 ^ 64 then some (PyData.int ((10 : Int) ^ (18 : Int).toNat)) else none) = _
  rw [if_pos (by decide)]
  rfl
theorem mod_lt {v m : Int} : 0 ≤ v % (if (1 : Int) > m then 1 else m) ∧ (1 ≤ m → v % (if (1 : Int) > m then 1 else m) < m) := by
  by_cases h : (1 : Int) > m
  · rw [if_pos h]; omega
  · rw [if_neg h]
    exact ⟨Int.emod_nonneg _ (by omega), fun _ => Int.emod_lt_of_pos _ (by omega)⟩
theorem max1 {m : Int} : 0 < (if (1 : Int) > m then 1 else m) := by split <;> omega
theorem max2 {m : Int} (h : m < 1073741824) : 0 < (if (2 : Int) > m then 2 else m) ∧ (if (2 : Int) > m then 2 else m) < 1073741824 := by split <;> omega
theorem draw_ok {tp : List D} (h : TapeOk tp) {m : Int} (hm : m < 1073741824) : ∃ v tp', m__law_draw (tp, .int m) = .ok (.int v, tp') ∧ TapeOk tp' ∧ 0 ≤ v ∧ (1 ≤ m → v < m) := by
  obtain ⟨ns, p, b, t, e, hb, ht⟩ := h
  subst e
  unfold m__law_draw
  simp only [lx2, opt_some, eq_i]
  by_cases hb0 : b = 0
  · rw [show (b == 0) = true by simpa using hb0, ite_t, lx1, opt_some]
    -- the number that is drawn
    obtain ⟨v, t', hv, hv0, ht0⟩ : ∃ v t', (R.opt (ixD (.list [PyData.list (I ns), .int p, .int b, .int t]) (.int 0)) fun z4 =>
  R.opt (lenD [z4]) fun z5 =>
  R.ite (ltD (.int p) z5) (
  R.opt (ixD (.list [PyData.list (I ns), .int p, .int b, .int t]) (.int 0)) fun z6 =>
  R.opt (ixD z6 (.int p)) fun z7 =>
  R.opt (intD [z7]) fun z8 =>
  R.opt (absD [z8]) fun z9 =>
  .ok (.nx ([PyData.list (I ns), .int p, .int b, .int t], z9))) (
  R.opt (ixD (.list [PyData.list (I ns), .int p, .int b, .int t]) (.int 3)) fun z10 =>
  R.opt (mulD z10 (.int 48271)) fun z11 =>
  R.opt (addD z11 (.int p)) fun z12 =>
  R.opt (addD z12 (.int 1)) fun z13 =>
  R.opt (intD [z13]) fun z14 =>
  R.opt (modD z14 (.int 2147483647)) fun z15 =>
  R.opt (stD [PyData.list (I ns), .int p, .int b, .int t] (.int 3) z15) fun z16 =>
  R.opt (ixD (.list z16) (.int 3)) fun z17 =>
  .ok (.nx (z16, z17)))) = (.ok (.nx ([PyData.list (I ns), .int p, .int b, .int t'], PyData.int v)) : R (Ct (List D × D))) ∧ 0 ≤ v ∧ 0 ≤ t' := by
      rw [lx0, opt_some, len_l, opt_some, I_len, lt_dec]
      by_cases hp : p < ns.length
      · refine ⟨(if ns[p] < 0 then -ns[p] else ns[p]), t, ?_, by split <;> omega, ht⟩
        rw [decide_eq_true (by omega), ite_t, opt_some, ix_l (d := .int ns[p]) (I_get (List.getElem?_eq_getElem hp)), opt_some, int_i, opt_some, abs_i, opt_some]
      · refine ⟨(t * 48271 + p + 1) % 2147483647, (t * 48271 + p + 1) % 2147483647, ?_, Int.emod_nonneg _ (by decide), Int.emod_nonneg _ (by decide)⟩
        rw [decide_eq_false (by omega), ite_f, lx3, opt_some, mul_i (by omega), opt_some, add_i, opt_some, add_i, opt_some, int_i, opt_some, mod_i (by decide), opt_some, st3, opt_some, lx3, opt_some]
    rw [hv, bind_ok, nxK_nx, add_1, opt_some, st1, opt_some, pow18, opt_some, lt_dec]
    by_cases hlt : v < 1000000000000000000
    · rw [decide_eq_true hlt, ite_t, mul_i (by omega), opt_some, mul_i (by omega), opt_some, add_i, opt_some, add_i, opt_some, int_i, opt_some, mod_i (by decide), opt_some, mul_i (by omega), opt_some, int_i, opt_some, mod_i (by decide), opt_some, int_i, opt_some, max_i, opt_some, mod_i max1, opt_some]
      exact ⟨_, _, rfl, ⟨ns, p + 1, b, t', rfl, hb, ht0⟩, mod_lt.1, mod_lt.2⟩
    · rw [decide_eq_false hlt, ite_f, st2, opt_some, lx2, opt_some, max_i, opt_some, fdiv_i (max2 hm), opt_some, st2, opt_some, int_i, opt_some, max_i, opt_some, mod_i max1, opt_some]
      exact ⟨_, _, rfl, ⟨ns, p + 1, _, t', rfl, Int.ediv_nonneg hv0 (by have := (max2 hm).1; omega), ht0⟩, mod_lt.1, mod_lt.2⟩
  · rw [show (b == 0) = false by simpa using hb0, ite_f, max_i, opt_some, fdiv_i (max2 hm), opt_some, st2, opt_some, int_i, opt_some, max_i, opt_some, mod_i max1, opt_some]
    exact ⟨_, _, rfl, ⟨ns, p, _, t, rfl, Int.ediv_nonneg hb (by have := (max2 hm).1; omega), ht⟩, mod_lt.1, mod_lt.2⟩
theorem tape_ok (ns : List Int) : ∃ tp, m__law_tape (I ns) = .ok tp ∧ TapeOk tp := by
  unfold m__law_tape
  rw [seq_l, opt_some]
  have loop : ∀ (l : List Int) (t : Int), 0 ≤ t → ∃ t', forL b1__law_tape (I l) (.int t) = .ok (.nx (.int t')) ∧ 0 ≤ t' := by
    intro l
    induction l with
    | nil => intro t h; exact ⟨t, rfl, h⟩
    | cons n l ih =>
      intro t h
      have eB : b1__law_tape (.int n) (.int t) = .ok (.nx (.int ((t * 31 + (if n < 0 then -n else n)) % 2147483647))) := by
        unfold b1__law_tape
        rw [mul_i (by omega), opt_some, int_i, opt_some, abs_i, opt_some, add_i, opt_some, int_i, opt_some, mod_i (by decide), opt_some]
      obtain ⟨t', e, h'⟩ := ih _ (Int.emod_nonneg (t * 31 + (if n < 0 then -n else n)) (by decide : (2147483647 : Int) ≠ 0))
      refine ⟨t', ?_, h'⟩
      show R.bind (b1__law_tape (.int n) (.int t)) _ = _
      rw [eB]
      exact e
  obtain ⟨t, e, h⟩ := loop ns 7 (by decide)
  rw [e, bind_ok, nxK_nx, list_l, opt_some]
  exact ⟨_, rfl, ns, 0, 0, t, rfl, by decide, h⟩

/-! ### drawn names -/
theorem sl_s {x : Str} {k : Nat} (hx : x.length ≤ sizeLine) : slD (.str x) none (some (k : Int)) = some (.str ⟨(x.cps.toList.take k).toArray⟩) := by
  show (if x.length ≤ sizeLine then some (PyData.str (cutS x none (some (k : Int)))) else none) = _
  rw [if_pos hx]
  unfold cutS
  rw [sIx_nat, show HT.sIx x.length 0 none = 0 from rfl, List.drop_zero, Nat.sub_zero]
  congr 3
  rw [← slen x]
  by_cases h : k ≤ x.cps.toList.length
  · rw [Nat.min_eq_left h]
  · rw [Nat.min_eq_right (by omega), List.take_of_length_le (Nat.le_refl _), List.take_of_length_le (by omega)]
/-- a name but for its length -/
structure Nm (l : List Nat) : Prop where
  ne : 1 ≤ l.length
  hd : ∀ c, l[0]? = some c → 97 ≤ c ∧ c ≤ 122
  al : ∀ c ∈ l, AlN c
theorem Nm.take {l : List Nat} (h : Nm l) {k : Nat} (hk : 1 ≤ k) : Nm (l.take k) where
  ne := by rw [List.length_take]; have := h.ne; omega
  hd := fun c e => h.hd c (by rw [List.getElem?_take] at e; split at e; exact e; cases e)
  al := fun c hc => h.al c (List.mem_of_mem_take hc)
theorem Nm.app {l m : List Nat} (h : Nm l) (hm : ∀ c ∈ m, AlN c) : Nm (l ++ m) where
  ne := by rw [List.length_append]; have := h.ne; omega
  hd := fun c e => h.hd c (by rw [List.getElem?_append_left (by have := h.ne; omega)] at e; exact e)
  al := fun c hc => (List.mem_append.mp hc).elim (h.al c) (hm c)
theorem Nm.ok {l : List Nat} (h : Nm l) (hl : l.length ≤ 16) : NameOk ⟨l.toArray⟩ where
  ne := by rw [← slen]; exact h.ne
  le := by rw [← slen]; exact hl
  hd := h.hd
  al := h.al
theorem NameOk.nm {x : Str} (h : NameOk x) : Nm x.cps.toList := ⟨by rw [slen]; exact h.ne, h.hd, h.al⟩
theorem str_of (l : List Nat) : ((⟨l.toArray⟩ : Str).cps.toList) = l := rfl
theorem str_app (a b : Str) : (a ++ b) = ⟨(a.cps.toList ++ b.cps.toList).toArray⟩ := by
  have e : (a ++ b).cps.toList = a.cps.toList ++ b.cps.toList := by rw [PySem.Str.cps_append, Array.toList_append]
  rw [← e, Array.toArray_toList]
def l62 : List Nat := (List.range 26).map (97 + ·) ++ ((List.range 26).map (65 + ·) ++ (List.range 10).map (48 + ·))
theorem l62_al : ∀ c ∈ l62, AlN c := by
  intro c hc
  unfold l62 at hc
  rcases List.mem_append.mp hc with h | h
  · obtain ⟨n, hn, e⟩ := List.mem_map.mp h
    have := List.mem_range.mp hn
    exact .inl (by omega)
  · rcases List.mem_append.mp h with h | h
    · obtain ⟨n, hn, e⟩ := List.mem_map.mp h
      have := List.mem_range.mp hn
      exact .inr (.inl (by omega))
    · obtain ⟨n, hn, e⟩ := List.mem_map.mp h
      have := List.mem_range.mp hn
      exact .inr (.inr (by omega))
def s62 : Str := ⟨l62.toArray⟩
theorem signs62 : addD (.str "abcdefghijklmnopqrstuvwxyz") (.str "ABCDEFGHIJKLMNOPQRSTUVWXYZ0123456789") = some (.str s62) := by
  have hb := big
  have e1 : (Str.ofString "abcdefghijklmnopqrstuvwxyz").length = 26 := by decide +kernel
  have e2 : (Str.ofString "ABCDEFGHIJKLMNOPQRSTUVWXYZ0123456789").length = 36 := by decide +kernel
  rw [add_s (by omega)]
  congr 2
theorem at62 {v : Int} (h0 : 0 ≤ v) (h : v < 62) : ∃ c, AlN c ∧ ixD (.str s62) (.int v) = some (.str ⟨#[c]⟩) := by
  have hb := big
  have hl : l62.length = 62 := by decide
  have hv : v.toNat < l62.length := by omega
  refine ⟨l62[v.toNat], l62_al _ (List.getElem_mem hv), ?_⟩
  have e : ixD (.str s62) (.int ((v.toNat : Nat) : Int)) = some (.str ⟨#[l62[v.toNat]]⟩) := ix_s (by rw [← slen]; show l62.length ≤ _; omega) (List.getElem?_eq_getElem hv)
  rw [show ((v.toNat : Nat) : Int) = v by omega] at e
  exact e
theorem at26 {v : Int} (h0 : 0 ≤ v) (h : v < 26) : ∃ c : Nat, (97 ≤ c ∧ c ≤ 122) ∧ ixD (.str "abcdefghijklmnopqrstuvwxyz") (.int v) = some (.str ⟨#[c]⟩) := by
  refine ⟨97 + v.toNat, by omega, ?_⟩
  rw [show v = ((v.toNat : Nat) : Int) by omega]
  exact ltr "abcdefghijklmnopqrstuvwxyz" 97 26 (by decide +kernel) (by decide) (by omega)
theorem word_ok {tp : List D} (h : TapeOk tp) {st : Str} (hs : st.cps.toList = [] ∨ (Nm st.cps.toList ∧ st.length ≤ 100)) : ∃ x tp', m__law_word (tp, .str st) = .ok (.str x, tp') ∧ TapeOk tp' ∧ NameOk x := by
  have hb := big
  unfold m__law_word
  simp only
  rw [signs62, opt_some, mul_i (by decide), opt_some, mul_i (by decide), opt_some, mul_i (by decide), opt_some]
  obtain ⟨v, tp', e, h', v0, _⟩ := draw_ok h (m := 26 * 62 * 62 * 4) (by decide)
  obtain ⟨c1, hc1, e1⟩ := at26 (Int.emod_nonneg v (by decide : (26 : Int) ≠ 0)) (Int.emod_lt_of_pos v (by decide : (0 : Int) < 26))
  obtain ⟨c2, hc2, e2⟩ := at62 (Int.emod_nonneg (v / 26) (by decide : (62 : Int) ≠ 0)) (Int.emod_lt_of_pos (v / 26) (by decide : (0 : Int) < 62))
  obtain ⟨c3, hc3, e3⟩ := at62 (Int.emod_nonneg (v / 1612) (by decide : (62 : Int) ≠ 0)) (Int.emod_lt_of_pos (v / 1612) (by decide : (0 : Int) < 62))
  rw [e, bind_ok, int_i, opt_some, mod_i (by decide), opt_some, e1, opt_some, fdiv_i (by decide), opt_some, int_i, opt_some, mod_i (by decide), opt_some, e2, opt_some]
  rw [add_s (by show 1 + 1 ≤ _; omega), opt_some, fdiv_i (by decide), opt_some, int_i, opt_some, mod_i (by decide), opt_some, e3, opt_some]
  have eW : ((⟨#[c1]⟩ : Str) ++ ⟨#[c2]⟩) ++ ⟨#[c3]⟩ = ⟨([c1, c2, c3] : List Nat).toArray⟩ := by rw [str_app, str_app]; rfl
  rw [add_s (by rw [strLen_append]; show 1 + 1 + 1 ≤ _; omega), eW, opt_some, fdiv_i (by decide), opt_some, int_i, opt_some, mod_i (by decide), opt_some, eq_i]
  have nw : Nm [c1, c2, c3] := ⟨by simp, fun c e => by simp at e; omega, fun c hc => by
    simp at hc
    rcases hc with rfl | rfl | rfl
    · exact .inl hc1
    · exact hc2
    · exact hc3⟩
  by_cases q : v / 99944 % 4 = 3
  · rw [show (v / 99944 % 4 == 3) = true by simpa using q, ite_t]
    have lw : (⟨([c1, c2, c3] : List Nat).toArray⟩ : Str).length = 3 := rfl
    have ls : st.length ≤ 100 := by
      rcases hs with hs | hs
      · rw [← slen, hs]; simp
      · exact hs.2
    have nA : Nm (st.cps.toList ++ [c1, c2, c3]) := by
      rcases hs with hs | hs
      · rw [hs]; exact nw
      · exact hs.1.app nw.al
    rw [add_s (by omega), opt_some, asInt_i, opt_some, str_app, show (16 : Int) = ((16 : Nat) : Int) from rfl, sl_s (by rw [← slen]; show (st.cps.toList ++ [c1, c2, c3]).length ≤ _; rw [List.length_append, slen]; show st.length + 3 ≤ _; omega), opt_some]
    exact ⟨_, _, rfl, h', (nA.take (by decide)).ok (by rw [List.length_take]; omega)⟩
  · rw [show (v / 99944 % 4 == 3) = false by simpa using q, ite_f, add_i, opt_some, asInt_i, opt_some]
    have hk : 1 + v / 99944 % 4 = ((1 + (v / 99944 % 4).toNat : Nat) : Int) := by omega
    rw [hk, sl_s (by show 3 ≤ _; omega), opt_some]
    exact ⟨_, _, rfl, h', (nw.take (by omega)).ok (by rw [List.length_take]; show min _ 3 ≤ _; omega)⟩
theorem digit_str {k : Nat} (h : k < 8) : strD [.int (k : Int)] = some (.str ⟨#[48 + k]⟩) := by
  have e : ∀ k : Fin 8, (Str.ofString (toString ((k.val : Nat) : Int))) = ⟨#[48 + k.val]⟩ := by decide +kernel
  have l : ∀ k : Fin 8, ((k.val : Nat) : Int).natAbs.log2 < 1920 := by decide +kernel
  have e2 := e ⟨k, h⟩
  have l2 := l ⟨k, h⟩
  show (if ((k : Nat) : Int).natAbs.log2 < 1920 then some (PyData.str (Str.ofString (toString ((k : Nat) : Int)))) else none) = _
  rw [if_pos l2, e2]
end MX

set_option Elab.async false
set_option linter.all false
set_option maxRecDepth 100000
namespace MX
open PySem PySem.Spec PyProof.Rows L2

def NameD (d : D) : Prop := ∃ x, NameOk x ∧ d = .str x
theorem not_in {x : Str} {us : List D} (h : ∀ d ∈ us, NameD d) : ∃ b, notInD (.str x) (.list us) = some b := by
  refine ⟨!(us.any fun y => PyData.eqv y (.str x)), ?_⟩
  have hf : us.all flatD = true := List.all_eq_true.mpr fun d hd => by obtain ⟨y, _, e⟩ := h d hd; rw [e]; rfl
  unfold notInD
  rw [show inD (.str x) (.list us) = some (us.any fun y => PyData.eqv y (.str x)) from if_pos ⟨rfl, hf⟩]
  rfl
theorem fresh_loop {a : List D × List D} (h : ∀ d ∈ a.2, NameD d) : ∀ (ys : List D), (∀ y ∈ ys, ∃ k : Nat, k < 8 ∧ y = .int k) → ∀ x, NameOk x → ∃ x', NameOk x' ∧ forL (b1__law_fresh a) ys (.str x) = .ok (.nx (.str x'))
  | [], _, x, hx => ⟨x, hx, rfl⟩
  | y :: ys, hy, x, hx => by
    have hb := big
    obtain ⟨k, hk, ey⟩ := hy y (List.Mem.head _)
    subst ey
    obtain ⟨t, et⟩ : ∃ t, (R.ite (notInD (.str x) (.list a.2)) (R.ite (neD (.str x) (.str "refl")) (.ok true) (.ok false)) (.ok false) : R Bool) = .ok t := by
      obtain ⟨b, e⟩ := not_in (x := x) h
      rw [e]
      cases b
      · exact ⟨_, rfl⟩
      · rw [ite_t, show neD (.str x) (.str "refl") = some (!(x == ("refl" : Str))) from rfl]
        cases (!(x == ("refl" : Str))) <;> exact ⟨_, rfl⟩
    have hl := hx.le
    cases t
    · -- one more
      have nx : Nm (x.cps.toList.take 10 ++ [120] ++ [48 + k]) := ((hx.nm.take (by decide)).app (by intro c hc; simp at hc; subst hc; unfold AlN; omega)).app (by intro c hc; simp at hc; subst hc; unfold AlN; omega)
      have eB : b1__law_fresh a (.int k) (.str x) = .ok (.nx (.str ⟨(x.cps.toList.take 10 ++ [120] ++ [48 + k]).toArray⟩)) := by
        unfold b1__law_fresh
        rw [et, bif_f, asInt_i, opt_some, show (10 : Int) = ((10 : Nat) : Int) from rfl, sl_s (by omega), opt_some]
        have e1 : (⟨(x.cps.toList.take 10).toArray⟩ : Str).length ≤ 10 := by rw [← slen]; show (x.cps.toList.take 10).length ≤ 10; rw [List.length_take]; omega
        have e2 : ("x" : Str) = ⟨([120] : List Nat).toArray⟩ := by decide +kernel
        rw [e2, add_s (by show _ + 1 ≤ _; omega), opt_some, digit_str hk, opt_some, add_s (by rw [strLen_append]; show _ + 1 + 1 ≤ _; omega), opt_some, str_app, str_app]
      obtain ⟨x', h1, h2⟩ := fresh_loop h ys (fun y q => hy y (List.Mem.tail _ q)) _ (nx.ok (by simp only [List.length_append, List.length_take, List.length_singleton]; omega))
      refine ⟨x', h1, ?_⟩
      show R.bind (b1__law_fresh a (.int k) (.str x)) _ = _
      rw [eB]
      exact h2
    · refine ⟨x, hx, ?_⟩
      have eB : b1__law_fresh a (.int k) (.str x) = .ok (.bk (.str x)) := by
        unfold b1__law_fresh
        rw [et, bif_t]
      show R.bind (b1__law_fresh a (.int k) (.str x)) _ = _
      rw [eB]
      rfl
theorem fresh_ok {tp us : List D} (h : TapeOk tp) (hu : ∀ d ∈ us, NameD d) (hl : us.length ≤ 4) : ∃ x tp', m__law_fresh (tp, us) = .ok (.str x, tp', us ++ [.str x]) ∧ TapeOk tp' ∧ NameOk x := by
  have hb := big
  unfold m__law_fresh
  simp only
  obtain ⟨v, tp1, e1, h1, v0, v2⟩ := draw_ok h (m := 2) (by decide)
  have v2 := v2 (by decide)
  rw [e1, bind_ok]
  obtain ⟨st, es, hs⟩ : ∃ st : Str, ixD (.list [.str "", .str "conclusionsOf"]) (.int v) = some (.str st) ∧ (st.cps.toList = [] ∨ (Nm st.cps.toList ∧ st.length ≤ 100)) := by
    have : v = 0 ∨ v = 1 := by omega
    rcases this with rfl | rfl
    · exact ⟨"", lx0, .inl (by decide +kernel)⟩
    · refine ⟨"conclusionsOf", lx1, .inr ⟨?_, by decide +kernel⟩⟩
      have e : (("conclusionsOf" : Str).cps.toList) = [99, 111, 110, 99, 108, 117, 115, 105, 111, 110, 115, 79, 102] := by decide +kernel
      rw [e]
      exact ⟨by decide, fun c h => by simp at h; omega, fun c h => by
        simp at h
        unfold AlN
        omega⟩
  rw [es, opt_some]
  obtain ⟨x, tp2, e2, h2, hx⟩ := word_ok h1 hs
  rw [e2, bind_ok, len_l, opt_some, add_i, opt_some, rg1_ok (by omega), opt2_some]
  obtain ⟨x', hx', e3⟩ := fresh_loop (a := (tp, us)) hu (rngD 0 (us.length + 2)) (fun y hy => by
    obtain ⟨i, hi⟩ := List.mem_iff_getElem?.mp hy
    have hil : i < (rngD 0 (us.length + 2)).length := (List.getElem?_eq_some_iff.mp hi).1
    rw [rng_len] at hil
    rw [rng_get (by omega)] at hi
    exact ⟨i, by omega, by cases hi; congr 1; omega⟩) x hx
  rw [e3, bind_ok, nxK_nx, ap_ok (by omega), opt_some]
  exact ⟨x', tp2, rfl, h2, hx'⟩
/-- a drawing comprehension, counted -/
theorem lc_drawI {γ : Type} {B : D → γ → R (D × γ)} {J : Nat → γ → Prop} {P : D → List Int → Prop} {N M : Nat} (hB : ∀ i y c, i < M → J i c → ∃ d c', B y c = .ok (d, c') ∧ J (i + 1) c' ∧ ∃ cs, P d cs ∧ cs.length ≤ N) :
    ∀ (ys : List D) (i : Nat) (c : γ) (acc : List D), J i c → i + ys.length ≤ M → acc.length + ys.length ≤ sizeLine → ∃ ds c', lcL B ys c acc = .ok (acc ++ ds, c') ∧ J (i + ys.length) c' ∧ ds.length = ys.length ∧ ∃ rows, All2 P ds rows ∧ rows.flatten.length ≤ N * ys.length
  | [], i, c, acc, hc, _, _ => ⟨[], c, by simp [lcL], hc, rfl, [], .nil, by simp⟩
  | y :: ys, i, c, acc, hc, hi, hl => by
    rw [List.length_cons] at hl hi
    obtain ⟨d, c1, e1, j1, cs, p1, l1⟩ := hB i y c (by omega) hc
    obtain ⟨ds, c2, e2, j2, hn, rows, p2, l2⟩ := lc_drawI hB ys (i + 1) c1 (acc ++ [d]) j1 (by omega) (by rw [List.length_append, List.length_singleton]; omega)
    refine ⟨d :: ds, c2, ?_, by rw [List.length_cons, show i + (ys.length + 1) = i + 1 + ys.length by omega]; exact j2, by rw [List.length_cons, List.length_cons, hn], cs :: rows, .cons p1 p2, ?_⟩
    · show R.bind (noX (B y c)) _ = _
      rw [e1]
      show (if acc.length < sizeLine then lcL B ys c1 (acc ++ [d]) else .stuck) = _
      rw [if_pos (by omega), e2, List.append_assoc]
      rfl
    · rw [List.flatten_cons, List.length_append, List.length_cons, Nat.mul_succ]
      omega
/-! ### drawn terms -/
structure NamesOk (l : List D) : Prop where
  ne : 1 ≤ l.length
  le : l.length ≤ 5
  all : ∀ d ∈ l, NameD d
theorem NamesOk.pick {l : List D} (h : NamesOk l) {v : Int} (h0 : 0 ≤ v) (h1 : v < l.length) : ∃ x, NameOk x ∧ ixD (.list l) (.int v) = some (.str x) := by
  have hv : v.toNat < l.length := by omega
  obtain ⟨x, hx, e⟩ := h.all l[v.toNat] (List.getElem_mem hv)
  exact ⟨x, hx, ix_li h0 (by rw [List.getElem?_eq_getElem hv, e])⟩
theorem pick_int {l : List Int} {v : Int} (h0 : 0 ≤ v) (h1 : v < l.length) : ∃ i ∈ l, ixD (.list (I l)) (.int v) = some (.int i) := by
  have hv : v.toNat < l.length := by omega
  exact ⟨l[v.toNat], List.getElem_mem hv, ix_li h0 (I_get (List.getElem?_eq_getElem hv))⟩
theorem Tm.mono : ∀ {n m : Nat}, n ≤ m → ∀ {d : D} {cs : List Int}, Tm n d cs → Tm m d cs
  | 0, _, _, _, _, h => h.elim
  | n + 1, 0, h, _, _, _ => absurd h (by omega)
  | n + 1, m + 1, h, d, cs, p => by
    rcases p with p | ⟨x, args, rows, hx, hl, ha, h8, e1, e2⟩
    · exact .inl p
    · exact .inr ⟨x, args, rows, hx, hl, ha.imp fun a b q => Tm.mono (by omega) q, h8, e1, e2⟩
def tb : Nat → Nat
  | 0 => 0
  | n + 1 => 18 + 8 * tb n
theorem any_term {l : List D} (hl : NamesOk l) : ∀ (n k : Nat), n ≤ k → 1 ≤ n → ∀ tp, TapeOk tp → ∃ d tp' cs, m__law_any_term k (tp, .list l, .int n) = .ok (d, tp') ∧ TapeOk tp' ∧ Tm n d cs ∧ cs.length ≤ tb n
  | 0, _, _, h, _, _ => absurd h (by decide)
  | n + 1, 0, h, _, _, _ => absurd h (by omega)
  | n + 1, k + 1, h, _, tp, ht => by
    have hb := sizeLine_eq
    show ∃ d tp' cs, g__law_any_term (m__law_any_term k) (tp, .list l, .int ((n + 1 : Nat) : Int)) = .ok (d, tp') ∧ _
    unfold g__law_any_term
    simp only
    obtain ⟨v, t1, e1, h1, v0, v6⟩ := draw_ok ht (m := 6) (by decide)
    rw [e1, bind_ok, lt_dec]
    by_cases q : v < 2
    · rw [decide_eq_true q, ite_t]
      obtain ⟨a, t2, e2, h2, a0, a4⟩ := draw_ok h1 (m := 4) (by decide)
      obtain ⟨b, t3, e3, h3, b0, b4⟩ := draw_ok h2 (m := 65536) (by decide)
      obtain ⟨c, t4, e4, h4, c0, c6⟩ := draw_ok h3 (m := 6) (by decide)
      obtain ⟨i, hi, e5⟩ := pick_int (l := [a, 255, 256, 999, 65535, b]) c0 (c6 (by decide))
      rw [e2, bind_ok, e3, bind_ok, e4, bind_ok, show ixD (.list [PyData.int a, .int 255, .int 256, .int 999, .int 65535, .int b]) (.int c) = some (.int i) from e5, opt_some]
      have a4 := a4 (by decide)
      have b4 := b4 (by decide)
      have hi : 0 ≤ i ∧ i < 65536 := by
        simp at hi
        omega
      exact ⟨_, _, _, rfl, h4, .inl ⟨i, hi.1, hi.2, rfl, rfl⟩, by show 3 ≤ 18 + 8 * tb n; omega⟩
    · rw [decide_eq_false q, ite_f, len_l, opt_some]
      obtain ⟨a, t2, e2, h2, a0, a4⟩ := draw_ok h1 (m := l.length) (by have := hl.le; omega)
      obtain ⟨x, hx, e3⟩ := hl.pick a0 (a4 (by have := hl.ne; omega))
      have hxl := hx.le
      rw [e2, bind_ok, e3, opt_some, le_dec]
      by_cases q2 : n = 0
      · subst q2
        rw [show decide (((0 + 1 : Nat) : Int) ≤ 1) = true by decide, ite_t]
        exact ⟨_, _, _, rfl, h2, .inr ⟨x, [], [], hx, hxl, .nil, by decide, rfl, rfl⟩, by simp only [List.length_cons, List.length_append, List.flatten_nil, List.length_nil, strC_len, tb]; omega⟩
      · rw [decide_eq_false (by omega), ite_f]
        obtain ⟨c, t3, e4, h3, c0, c6⟩ := draw_ok h2 (m := 6) (by decide)
        obtain ⟨i, hi, e5⟩ := pick_int (l := [0, 1, 2, 3, 8, 1]) c0 (c6 (by decide))
        have hi : 0 ≤ i ∧ i ≤ 8 := by
          simp at hi
          omega
        rw [e4, bind_ok, show ixD (.list [PyData.int 0, .int 1, .int 2, .int 3, .int 8, .int 1]) (.int c) = some (.int i) from e5, opt_some, rg1_ok (by omega), opt2_some]
        obtain ⟨ds, t4, e6, h4, hn, rows, ha, hr⟩ := lc_draw (B := b1__law_any_term (m__law_any_term k) (tp, .list l, .int ((n + 1 : Nat) : Int))) (J := TapeOk) (P := Tm n) (N := tb n) (fun y c hc => by
          obtain ⟨d, tp', cs, e, h', p, hl'⟩ := any_term hl n k (by omega) (by omega) c hc
          refine ⟨d, tp', ?_, h', cs, p, hl'⟩
          unfold b1__law_any_term
          simp only
          rw [sub_i, opt_some, show ((n + 1 : Nat) : Int) - 1 = (n : Int) by omega, e, bind_ok]) (rngD 0 i) t3 [] h3 (by rw [rng_len, List.length_nil]; omega)
        rw [e6, bind2_ok, tup_l, opt_some, List.nil_append]
        rw [rng_len] at hn hr
        have hr' : rows.flatten.length ≤ tb n * 8 := Nat.le_trans hr (Nat.mul_le_mul_left _ (by omega))
        rw [add_t (by rw [List.length_singleton]; omega), opt_some]
        exact ⟨_, _, _, rfl, h4, .inr ⟨x, ds, rows, hx, hxl, ha, by omega, rfl, rfl⟩, by simp only [List.length_cons, List.length_append, strC_len, tb]; omega⟩
theorem any_atom {l : List D} (hl : NamesOk l) {n : Nat} (h1 : 1 ≤ n) (h8 : n ≤ 8) {tp : List D} (ht : TapeOk tp) {m : Int} (hm : m = n + 1) : ∃ d tp' cs, m__law_any_atom (tp, .list l, .int m) = .ok (d, tp') ∧ TapeOk tp' ∧ At d cs ∧ cs.length ≤ 18 + 3 * tb n := by
  have hb := sizeLine_eq
  subst hm
  unfold m__law_any_atom
  simp only
  obtain ⟨v, t1, e1, h1', v0, v6⟩ := draw_ok ht (m := 5) (by decide)
  rw [e1, bind_ok, eq_i]
  by_cases q : v = 0
  · rw [show (v == 0) = true by simpa using q, ite_t, sub_i, opt_some, show (n : Int) + 1 - 1 = (n : Int) by omega]
    obtain ⟨d1, t2, c1, e2, h2, p1, l1⟩ := any_term hl n 8 h8 h1 t1 h1'
    obtain ⟨d2, t3, c2, e3, h3, p2, l2⟩ := any_term hl n 8 h8 h1 t2 h2
    rw [e2, bind_ok, opt_some, e3, bind_ok]
    refine ⟨_, _, _, rfl, h3, ⟨sEq, [d1, d2], [c1, c2], .inr ⟨rfl, rfl⟩, by decide +kernel, .cons (p1.mono (by omega)) (.cons (p2.mono (by omega)) .nil), Nat.le_of_ble_eq_true rfl, rfl, rfl⟩, ?_⟩
    simp only [List.length_cons, List.length_append, List.flatten_cons, List.flatten_nil, List.length_nil, strC_len]
    have : sEq.length = 1 := by decide +kernel
    omega
  · rw [show (v == 0) = false by simpa using q, ite_f]
    obtain ⟨c, t2, e2, h2, c0, c4⟩ := draw_ok h1' (m := 4) (by decide)
    obtain ⟨i, hi, e3⟩ := pick_int (l := [0, 1, 2, 3]) c0 (c4 (by decide))
    have hi : 0 ≤ i ∧ i ≤ 3 := by
      simp at hi
      omega
    rw [e2, bind_ok, show ixD (.list [PyData.int 0, .int 1, .int 2, .int 3]) (.int c) = some (.int i) from e3, opt_some, len_l, opt_some]
    obtain ⟨a, t3, e4, h3, a0, a4⟩ := draw_ok h2 (m := l.length) (by have := hl.le; omega)
    obtain ⟨x, hx, e5⟩ := hl.pick a0 (a4 (by have := hl.ne; omega))
    have hxl := hx.le
    rw [e4, bind_ok, e5, opt_some, rg1_ok (by omega), opt2_some]
    obtain ⟨ds, t4, e6, h4, hn, rows, ha, hr⟩ := lc_draw (B := b1__law_any_atom (tp, .list l, .int ((n : Int) + 1))) (J := TapeOk) (P := Tm n) (N := tb n) (fun y c hc => by
      obtain ⟨d, tp', cs, e, h', p, hl'⟩ := any_term hl n 8 h8 h1 c hc
      refine ⟨d, tp', ?_, h', cs, p, hl'⟩
      unfold b1__law_any_atom
      simp only
      rw [sub_i, opt_some, show (n : Int) + 1 - 1 = (n : Int) by omega, e, bind_ok]) (rngD 0 i) t3 [] h3 (by rw [rng_len, List.length_nil]; omega)
    rw [e6, bind2_ok, tup_l, opt_some, List.nil_append]
    rw [rng_len] at hn hr
    have hr' : rows.flatten.length ≤ tb n * 3 := Nat.le_trans hr (Nat.mul_le_mul_left _ (by omega))
    rw [add_t (by rw [List.length_singleton]; omega), opt_some]
    exact ⟨_, _, _, rfl, h4, ⟨x, ds, rows, .inl hx, hxl, ha.imp fun a b q => q.mono (by omega), by omega, rfl, rfl⟩, by simp only [List.length_cons, List.length_append, strC_len]; omega⟩
end MX

set_option Elab.async false
set_option linter.all false
set_option maxRecDepth 100000
namespace MX
open PySem PySem.Spec PyProof.Rows L2

theorem tb2 : tb 2 = 162 := rfl
theorem tb1 : tb 1 = 18 := rfl
def ab : Nat → Nat
  | 0 => 0
  | n + 1 => 400 + 2 * ab n
theorem nameC {x : Str} (h : NameOk x) : NameP (.str x) (strC x) ∧ (strC x).length ≤ 17 := ⟨⟨x, h, rfl, rfl⟩, by rw [strC_len]; have := h.le; omega⟩
/-- drawn numbers -/
theorem nums_of {ds : List D} {rows : List (List Int)} (h : All2 (fun d cs => ∃ i : Int, 0 ≤ i ∧ i ≤ 255 ∧ d = .int i ∧ cs = [i]) ds rows) : ∃ ms : List Int, ds = I ms ∧ ∀ m ∈ ms, 0 ≤ m ∧ m ≤ 255 := by
  induction h with
  | nil => exact ⟨[], rfl, fun m hm => by cases hm⟩
  | cons p t ih =>
    obtain ⟨i, h0, h1, e, _⟩ := p
    obtain ⟨ms, e2, hm⟩ := ih
    refine ⟨i :: ms, by rw [e, e2]; rfl, fun m hm' => ?_⟩
    rcases List.mem_cons.mp hm' with q | q
    · subst q; exact ⟨h0, h1⟩
    · exact hm m q
theorem any_argument {l : List D} (hl : NamesOk l) : ∀ (n k : Nat), n ≤ k → 1 ≤ n → ∀ tp, TapeOk tp → ∃ d tp' cs, m__law_any_argument k (tp, .list l, .int n) = .ok (d, tp') ∧ TapeOk tp' ∧ ArgP n d cs ∧ cs.length ≤ ab n
  | 0, _, _, h, _, _ => absurd h (by decide)
  | n + 1, 0, h, _, _, _ => absurd h (by omega)
  | n + 1, k + 1, h, _, tp, ht => by
    have hb := sizeLine_eq
    have hne := hl.ne
    have hle := hl.le
    show ∃ d tp' cs, g__law_any_argument (m__law_any_argument k) (tp, .list l, .int ((n + 1 : Nat) : Int)) = .ok (d, tp') ∧ _
    unfold g__law_any_argument
    simp only
    rw [len_l, opt_some]
    obtain ⟨a, t1, e1, h1, a0, a1⟩ := draw_ok ht (m := l.length) (by omega)
    obtain ⟨x, hx, e2⟩ := hl.pick a0 (a1 (by omega))
    obtain ⟨hxn, hxl⟩ := nameC hx
    rw [e1, bind_ok, e2, opt_some]
    -- the terms
    obtain ⟨v, t2, e3, h2, v0, v3⟩ := draw_ok h1 (m := 3) (by decide)
    have v3 := v3 (by decide)
    rw [e3, bind_ok, rg1_ok (by omega), opt2_some]
    obtain ⟨ts, t3, e4, h3, hn, rows, ha, hr⟩ := lc_draw (B := b1__law_any_argument (tp, .list l, .int ((n + 1 : Nat) : Int))) (J := TapeOk) (P := Tm 2) (N := 162) (fun y c hc => by
      obtain ⟨d, tp', cs, e, h', p, hl'⟩ := any_term hl 2 8 (by decide) (by decide) c hc
      refine ⟨d, tp', ?_, h', cs, p, hl'⟩
      unfold b1__law_any_argument
      simp only
      rw [show (PyData.int 2) = .int ((2 : Nat) : Int) from rfl, e, bind_ok]) (rngD 0 v) t2 [] h2 (by rw [rng_len, List.length_nil]; omega)
    rw [rng_len] at hn hr
    have hr' : rows.flatten.length ≤ 162 * 2 := Nat.le_trans hr (Nat.mul_le_mul_left _ (by omega))
    rw [e4, bind2_ok, tup_l, opt_some, List.nil_append]
    have hT : RowsC (Tm 20) (.tuple ts) ((ts.length : Int) :: rows.flatten) := ⟨ts, rows, ha.imp fun a b q => q.mono (by decide), by omega, rfl, rfl⟩
    -- the places
    obtain ⟨u, t4, e5, h4, u0, u3⟩ := draw_ok h3 (m := 3) (by decide)
    have u3 := u3 (by decide)
    rw [e5, bind_ok, rg1_ok (by omega), opt2_some]
    obtain ⟨ps, t5, e6, h5, hn2, rows2, ha2, hr2⟩ := lc_draw (B := b2__law_any_argument) (J := TapeOk) (P := fun d cs => ∃ i : Int, 0 ≤ i ∧ i ≤ 255 ∧ d = .int i ∧ cs = [i]) (N := 1) (fun y c hc => by
      obtain ⟨w, tp', e, h', w0, w4⟩ := draw_ok hc (m := 4) (by decide)
      obtain ⟨i, hi, e5⟩ := pick_int (l := [0, 1, 29, 255]) w0 (w4 (by decide))
      have hi : 0 ≤ i ∧ i ≤ 255 := by
        simp at hi
        omega
      refine ⟨.int i, tp', ?_, h', [i], ⟨i, hi.1, hi.2, rfl, rfl⟩, by simp⟩
      unfold b2__law_any_argument
      rw [e, bind_ok, show ixD (.list [PyData.int 0, .int 1, .int 29, .int 255]) (.int w) = some (.int i) from e5, opt_some]) (rngD 0 u) t4 [] h4 (by rw [rng_len, List.length_nil]; omega)
    rw [rng_len] at hn2
    obtain ⟨ms, e7, hm⟩ := nums_of ha2
    subst e7
    rw [I_len] at hn2
    rw [e6, bind2_ok, tup_l, opt_some, List.nil_append, add_t (by rw [I_len, List.length_singleton]; omega), opt_some]
    obtain ⟨j, hj, ej⟩ : ∃ j : Int, (0 ≤ j ∧ j ≤ 255) ∧ ixD (.tuple (I ms ++ [.int 3])) (.int 0) = some (.int j) := by
      cases ms with
      | nil => exact ⟨3, by decide, x0⟩
      | cons m ms => exact ⟨m, hm m (List.Mem.head _), x0⟩
    have hN : NumsP (.tuple (I ms)) ((ms.length : Int) :: ms) := ⟨ms, hm, by omega, rfl, rfl⟩
    rw [ej, opt_some]
    -- the step
    obtain ⟨w, t6, e8, h6, w0, w256⟩ := draw_ok h5 (m := 256) (by decide)
    have w256 := w256 (by decide)
    rw [e8, bind_ok, add_l (by simp only [List.length_cons, List.length_nil]; omega), opt_some]
    obtain ⟨c, t7, e9, h7, c0, c4⟩ := draw_ok h6 (m := 4) (by decide)
    have c4 := c4 (by decide)
    rw [e9, bind_ok]
    obtain ⟨st, cst, est, hst, lst⟩ : ∃ st cst, ixD (.list ([(.tuple [(.str "done"), .int j, .tuple ts]), (.tuple [(.str "rule"), .str x, .tuple ts, .tuple (I ms)]), (.tuple [(.str "apply"), .str x, .tuple ts, .tuple (I ms)])] ++ [(.tuple [(.str "invert"), .int w])])) (.int c) = some st ∧ StepP st cst ∧ cst.length ≤ 350 := by
      have : c = 0 ∨ c = 1 ∨ c = 2 ∨ c = 3 := by omega
      rcases this with rfl | rfl | rfl | rfl
      · exact ⟨_, _, lx0, .inr (.inl ⟨j, _, _, hj, hT, rfl, rfl⟩), by simp only [List.length_cons]; omega⟩
      · exact ⟨_, _, lx1, .inr (.inr ⟨false, _, _, _, _, _, _, hxn, hT, hN, rfl, rfl⟩), by simp only [List.length_cons, List.length_append]; omega⟩
      · exact ⟨_, _, lx2, .inr (.inr ⟨true, _, _, _, _, _, _, hxn, hT, hN, rfl, rfl⟩), by simp only [List.length_cons, List.length_append]; omega⟩
      · exact ⟨_, _, lx3, .inl ⟨w, by omega, rfl, rfl⟩, by simp only [List.length_cons, List.length_nil]; omega⟩
    rw [est, opt_some, gt_dec]
    by_cases q : n = 0
    · subst q
      rw [show decide ((1 : Int) < ((0 + 1 : Nat) : Int)) = false by decide, ite_f, bind_ok, nxK_nx, tup_l, opt_some]
      refine ⟨_, _, _, rfl, h7, ⟨st, cst, [], [], hst, .nil, by decide, rfl, rfl⟩, ?_⟩
      simp only [List.length_append, List.length_cons, List.flatten_nil, List.length_nil, ab]
      omega
    · rw [decide_eq_true (by omega), ite_t]
      obtain ⟨g, t8, e10, h8, g0, g4⟩ := draw_ok h7 (m := 4) (by decide)
      obtain ⟨i, hi, e11⟩ := pick_int (l := [1, 0, 2, 1]) g0 (g4 (by decide))
      have hi : 0 ≤ i ∧ i ≤ 2 := by
        simp at hi
        omega
      rw [e10, bind_ok, show ixD (.list [PyData.int 1, .int 0, .int 2, .int 1]) (.int g) = some (.int i) from e11, opt_some, rg1_ok (by omega), opt2_some]
      obtain ⟨qs, cc, e12, ⟨h9, e13⟩, hn3, rows3, ha3, hr3⟩ := for_draw (B := b3__law_any_argument (m__law_any_argument k) (tp, .list l, .int ((n + 1 : Nat) : Int))) (st := fun c _ => c) (J := fun c acc => TapeOk c.1 ∧ c.2 = acc) (P := PartP (ArgP n)) (N := 17 + ab n) (fun y c acc hc hacc => by
        obtain ⟨c1, c2⟩ := c
        obtain ⟨hc, ec⟩ := hc
        have ec : c2 = acc := ec
        subst ec
        unfold b3__law_any_argument
        simp only
        rw [add_l (by rw [List.length_singleton]; omega), opt_some, len_l, opt_some, add_i, opt_some]
        obtain ⟨v, s1, f1, k1, v0, v1⟩ := draw_ok hc (m := (l.length : Int) + 1) (by omega)
        have v1 := v1 (by omega)
        obtain ⟨dl, cl, f2, hdl, ldl⟩ : ∃ dl cl, ixD (.list (l ++ [.str ""])) (.int v) = some dl ∧ LabelP dl cl ∧ cl.length ≤ 17 := by
          by_cases z : v < l.length
          · have hv : v.toNat < l.length := by omega
            obtain ⟨y, hy, e⟩ := hl.all l[v.toNat] (List.getElem_mem hv)
            refine ⟨.str y, strC y, ix_li v0 (by rw [List.getElem?_append_left hv, List.getElem?_eq_getElem hv, e]), ⟨y, .inl hy, rfl, rfl⟩, (nameC hy).2⟩
          · refine ⟨.str "", strC "", ix_li v0 (by rw [List.getElem?_append_right (by omega), show v.toNat - l.length = 0 by omega]; rfl), ⟨"", .inr rfl, rfl, rfl⟩, by decide +kernel⟩
        obtain ⟨d, s2, cs, f3, k3, p3, l3⟩ := any_argument hl n k (by omega) (by omega) s1 k1
        rw [f1, bind_ok, f2, opt_some, sub_i, opt_some, show ((n + 1 : Nat) : Int) - 1 = (n : Int) by omega, f3, bind_ok, ap_ok (by omega), opt_some]
        exact ⟨.tuple [dl, d], _, rfl, ⟨k3, rfl⟩, cl ++ cs, ⟨dl, cl, d, cs, hdl, p3, rfl, rfl⟩, by rw [List.length_append]; omega⟩) (rngD 0 i) (t8, []) [] ⟨h8, rfl⟩ (by rw [rng_len, List.length_nil]; omega)
      rw [rng_len] at hn3 hr3
      have hr3' : rows3.flatten.length ≤ (17 + ab n) * 2 := Nat.le_trans hr3 (Nat.mul_le_mul_left _ (by omega))
      rw [e12, bind_ok, nxK_nx, bind_ok, nxK_nx, tup_l, opt_some, e13, List.nil_append]
      refine ⟨_, _, _, rfl, h9, ⟨st, cst, qs, rows3, hst, ha3, by omega, rfl, rfl⟩, ?_⟩
      simp only [List.length_append, List.length_cons, ab]
      omega
theorem StepP.mono {d : D} {cs : List Int} (h : StepP d cs) : StepP d cs := h
theorem ArgP.mono : ∀ {n m : Nat}, n ≤ m → ∀ {d : D} {cs : List Int}, ArgP n d cs → ArgP m d cs
  | 0, _, _, _, _, h => h.elim
  | n + 1, 0, h, _, _, _ => absurd h (by omega)
  | n + 1, m + 1, h, d, cs, ⟨dst, cst, ds, rows, hs, ha, hl, e1, e2⟩ => ⟨dst, cst, ds, rows, hs, ha.imp fun a b ⟨dl, cl, da, ca, hl, hA, e3, e4⟩ => ⟨dl, cl, da, ca, hl, hA.mono (by omega), e3, e4⟩, hl, e1, e2⟩
theorem rows_of {P : D → List Int → Prop} {ds : List D} {rows : List (List Int)} (h : All2 P ds rows) (hl : ds.length ≤ 255) : RowsC P (.tuple ds) ((ds.length : Int) :: rows.flatten) := ⟨ds, rows, h, hl, rfl, rfl⟩
/-- atoms drawn in a comprehension -/
theorem atoms_ok {l : List D} (hl : NamesOk l) {n : Nat} (h1 : 1 ≤ n) (h8 : n ≤ 8) {m : Int} (hm : m = n + 1) {B : D → List D → R (D × List D)} (hB : ∀ y c, B y c = R.bind (m__law_any_atom (c, .list l, .int m)) fun b => .ok (b.1, b.2)) {tp : List D} (ht : TapeOk tp) {v : Int} (v0 : 0 ≤ v) (v3 : v ≤ 3) :
    ∃ ds tp' cs, lcL B (rngD 0 v) tp [] = .ok (ds, tp') ∧ TapeOk tp' ∧ RowsC At (.tuple ds) cs ∧ cs.length ≤ 1 + 3 * (18 + 3 * tb n) := by
  have hb := sizeLine_eq
  obtain ⟨ds, t3, e4, h3, hn, rows, ha, hr⟩ := lc_draw (B := B) (J := TapeOk) (P := At) (N := 18 + 3 * tb n) (fun y c hc => by
    obtain ⟨d, tp', cs, e, h', p, hl'⟩ := any_atom hl h1 h8 hc hm
    exact ⟨d, tp', by rw [hB, e, bind_ok], h', cs, p, hl'⟩) (rngD 0 v) tp [] ht (by rw [rng_len, List.length_nil]; omega)
  rw [rng_len] at hn hr
  have hr' : rows.flatten.length ≤ (18 + 3 * tb n) * 3 := Nat.le_trans hr (Nat.mul_le_mul_left _ (by omega))
  exact ⟨ds, t3, _, by rw [e4, List.nil_append], h3, rows_of ha (by omega), by rw [List.length_cons]; omega⟩
end MX

set_option Elab.async false
set_option linter.all false
set_option maxRecDepth 100000
namespace MX
open PySem PySem.Spec PyProof.Rows L2

theorem ab4 : ab 4 = 6000 := rfl
theorem ab_le {n : Nat} (h : n ≤ 4) : ab n ≤ 6000 := by
  match n, h with
  | 0, _ => decide
  | 1, _ => decide
  | 2, _ => decide
  | 3, _ => decide
  | 4, _ => decide
structure PQ (d : D) where
  x : Str
  di : D
  ci : List Int
  dr : List D
  rr : List (List Int)
  db : D
  cb : List Int
  de : List D
  re : List (List Int)
  e : d = .tuple [.str x, di, .tuple dr, db, .tuple de]
  hx : NameOk x
  hi : RowsC NameP di ci
  hr : All2 RuleP dr rr
  lr : dr.length ≤ 100
  hb : RowsC BlockP db cb
  he : All2 EntryP de re
  le : de.length ≤ 100
  sz : ci.length + rr.flatten.length + cb.length + re.flatten.length ≤ 100000
theorem names_of {ds : List D} {rows : List (List Int)} (h : All2 NameP ds rows) : ∀ d ∈ ds, NameD d := by
  induction h with
  | nil => intro d hd; cases hd
  | cons p t ih =>
    intro d hd
    rcases List.mem_cons.mp hd with e | e
    · subst e
      obtain ⟨x, hx, e, _⟩ := p
      exact ⟨x, hx, e⟩
    · exact ih d e
theorem rules_b {l : List D} (hl : NamesOk l) (y : D) (c : List D × List D) (acc : List D) (hc : TapeOk c.1 ∧ c.2 = acc) (ha : acc.length < 1000) : ∃ d c', b3__law_any_parts l y c = .ok (.nx c') ∧ (TapeOk c'.1 ∧ c'.2 = acc ++ [d]) ∧ ∃ cs, RuleP d cs ∧ cs.length ≤ 2200 := by
  have hb := sizeLine_eq
  obtain ⟨c1, c2⟩ := c
  obtain ⟨hc, ec⟩ := hc
  have ec : c2 = acc := ec
  subst ec
  unfold b3__law_any_parts
  simp only
  obtain ⟨v, t1, e1, h1, v0, v4⟩ := draw_ok hc (m := 4) (by decide)
  have v4 := v4 (by decide)
  obtain ⟨ds, t2, cs, e2, h2, p2, l2⟩ := atoms_ok hl (n := 2) (by decide) (by decide) (m := 3) rfl (B := b2__law_any_parts l) (fun y c => rfl) h1 v0 (by omega)
  obtain ⟨w, t3, e3, h3, w0, w1⟩ := draw_ok h2 (m := l.length) (by have := hl.le; omega)
  obtain ⟨x, hx, e4⟩ := hl.pick w0 (w1 (by have := hl.ne; omega))
  obtain ⟨hxn, hxl⟩ := nameC hx
  obtain ⟨d, t4, cs4, e5, h5, p5, l5⟩ := any_atom hl (n := 2) (by decide) (by decide) h3 (m := 3) rfl
  rw [tb2] at l2 l5
  rw [e1, bind_ok, rg1_ok (by omega), opt2_some, e2, bind2_ok, tup_l, opt_some, len_l, opt_some, e3, bind_ok, e4, opt_some, e5, bind_ok, ap_ok (by omega), opt_some]
  exact ⟨_, _, rfl, ⟨h5, rfl⟩, _, ⟨_, _, _, _, _, _, hxn, p2, p5, rfl, rfl⟩, by rw [List.length_append, List.length_append]; omega⟩
theorem claims_b {l : List D} (hl : NamesOk l) (y : D) (c : List D × List D) (acc : List D) (hc : TapeOk c.1 ∧ c.2 = acc) (ha : acc.length < 1000) : ∃ d c', b8__law_any_parts l y c = .ok (.nx c') ∧ (TapeOk c'.1 ∧ c'.2 = acc ++ [d]) ∧ ∃ cs, ClaimP d cs ∧ cs.length ≤ 1000 := by
  have hb := sizeLine_eq
  obtain ⟨c1, c2⟩ := c
  obtain ⟨hc, ec⟩ := hc
  have ec : c2 = acc := ec
  subst ec
  unfold b8__law_any_parts
  simp only
  obtain ⟨v, t1, e1, h1, v0, v4⟩ := draw_ok hc (m := 3) (by decide)
  have v4 := v4 (by decide)
  obtain ⟨ds, t2, cs, e2, h2, p2, l2⟩ := atoms_ok hl (n := 1) (by decide) (by decide) (m := 2) rfl (B := b4__law_any_parts l) (fun y c => rfl) h1 v0 (by omega)
  obtain ⟨v', t3, e3, h3, v0', v4'⟩ := draw_ok h2 (m := 3) (by decide)
  have v4' := v4' (by decide)
  rw [e1, bind_ok, rg1_ok (by omega), opt2_some, e2, bind2_ok, tup_l, opt_some, e3, bind_ok, rg1_ok (by omega), opt2_some]
  obtain ⟨ds3, cc, e4, ⟨h4, e5⟩, hn3, rows3, ha3, hr3⟩ := for_draw (B := b6__law_any_parts l) (st := fun c _ => c) (J := fun c acc => TapeOk c.1 ∧ c.2 = acc) (P := RowsC At) (N := 1 + 3 * (18 + 3 * tb 1)) (fun y c acc hc hacc => by
    obtain ⟨c1, c2⟩ := c
    obtain ⟨hc, ec⟩ := hc
    have ec : c2 = acc := ec
    subst ec
    unfold b6__law_any_parts
    simp only
    obtain ⟨v, t1, e1, h1, v0, v4⟩ := draw_ok hc (m := 3) (by decide)
    have v4 := v4 (by decide)
    obtain ⟨ds, t2, cs, e2, h2, p2, l2⟩ := atoms_ok hl (n := 1) (by decide) (by decide) (m := 2) rfl (B := b5__law_any_parts l) (fun y c => rfl) h1 v0 (by omega)
    rw [e1, bind_ok, rg1_ok (by omega), opt2_some, e2, bind2_ok, tup_l, opt_some, ap_ok (by omega), opt_some]
    exact ⟨_, _, rfl, ⟨h2, rfl⟩, _, p2, l2⟩) (rngD 0 v') (t3, []) [] ⟨h3, rfl⟩ (by rw [rng_len, List.length_nil]; omega)
  rw [rng_len] at hn3 hr3
  have hr3' : rows3.flatten.length ≤ (1 + 3 * (18 + 3 * tb 1)) * 2 := Nat.le_trans hr3 (Nat.mul_le_mul_left _ (by omega))
  rw [e4, bind_ok, nxK_nx, e5, List.nil_append]
  obtain ⟨g, t5, e6, h6, g0, g4⟩ := draw_ok h4 (m := 4) (by decide)
  obtain ⟨i, hi, e7⟩ := pick_int (l := [0, 1, 2, 255]) g0 (g4 (by decide))
  have hi : 0 ≤ i ∧ i ≤ 255 := by
    simp at hi
    omega
  rw [e6, bind_ok, show ixD (.list [PyData.int 0, .int 1, .int 2, .int 255]) (.int g) = some (.int i) from e7, opt_some, tup_l, opt_some]
  obtain ⟨u, t6, e8, h8, u0, u3⟩ := draw_ok h6 (m := 3) (by decide)
  have u3 := u3 (by decide)
  rw [e8, bind_ok, rg1_ok (by omega), opt2_some]
  obtain ⟨ps, t7, e9, h9, hn2, rows2, ha2, hr2⟩ := lc_draw (B := b7__law_any_parts) (J := TapeOk) (P := fun d cs => ∃ i : Int, 0 ≤ i ∧ i ≤ 255 ∧ d = .int i ∧ cs = [i]) (N := 1) (fun y c hc => by
    obtain ⟨w, tp', e, h', w0, w4⟩ := draw_ok hc (m := 4) (by decide)
    obtain ⟨i, hi, e5⟩ := pick_int (l := [0, 1, 7, 255]) w0 (w4 (by decide))
    have hi : 0 ≤ i ∧ i ≤ 255 := by
      simp at hi
      omega
    refine ⟨.int i, tp', ?_, h', [i], ⟨i, hi.1, hi.2, rfl, rfl⟩, by simp⟩
    unfold b7__law_any_parts
    rw [e, bind_ok, show ixD (.list [PyData.int 0, .int 1, .int 7, .int 255]) (.int w) = some (.int i) from e5, opt_some]) (rngD 0 u) t6 [] h8 (by rw [rng_len, List.length_nil]; omega)
  rw [rng_len] at hn2
  obtain ⟨ms, e10, hm⟩ := nums_of ha2
  subst e10
  rw [I_len] at hn2
  rw [e9, bind2_ok, tup_l, opt_some, List.nil_append, len_l, opt_some]
  obtain ⟨a, t8, e11, h11, a0, a1⟩ := draw_ok h9 (m := l.length) (by have := hl.le; omega)
  obtain ⟨x, hx, e12⟩ := hl.pick a0 (a1 (by have := hl.ne; omega))
  obtain ⟨hxn, hxl⟩ := nameC hx
  rw [e11, bind_ok, e12, opt_some, ap_ok (by omega), opt_some]
  rw [tb1] at l2 hr3'
  exact ⟨_, _, rfl, ⟨h11, rfl⟩, _, ⟨_, _, i, _, _, _, _, _, _, hxn, hi, p2, rows_of ha3 (by omega), ⟨ms, hm, by omega, rfl, rfl⟩, rfl, rfl⟩, by simp only [List.length_append, List.length_cons]; omega⟩
theorem blocks_b {l : List D} (hl : NamesOk l) (y : D) (c : List D × List D) (acc : List D) (hc : TapeOk c.1 ∧ c.2 = acc) (ha : acc.length < 1000) : ∃ d c', b9__law_any_parts l y c = .ok (.nx c') ∧ (TapeOk c'.1 ∧ c'.2 = acc ++ [d]) ∧ ∃ cs, BlockP d cs ∧ cs.length ≤ 2002 := by
  have hb := sizeLine_eq
  obtain ⟨c1, c2⟩ := c
  obtain ⟨hc, ec⟩ := hc
  have ec : c2 = acc := ec
  subst ec
  unfold b9__law_any_parts
  simp only
  obtain ⟨v, t1, e1, h1, v0, v4⟩ := draw_ok hc (m := 2) (by decide)
  have v4 := v4 (by decide)
  rw [e1, bind_ok, add_i, opt_some, rg1_ok (by omega), opt2_some]
  obtain ⟨ds3, cc, e4, ⟨h4, e5⟩, hn3, rows3, ha3, hr3⟩ := for_draw (B := b8__law_any_parts l) (st := fun c _ => c) (J := fun c acc => TapeOk c.1 ∧ c.2 = acc) (P := ClaimP) (N := 1000) (claims_b hl) (rngD 0 (1 + v)) (t1, []) [] ⟨h1, rfl⟩ (by rw [rng_len, List.length_nil]; omega)
  rw [rng_len] at hn3 hr3
  have hr3' : rows3.flatten.length ≤ 1000 * 2 := Nat.le_trans hr3 (Nat.mul_le_mul_left _ (by omega))
  obtain ⟨g, t5, e6, h6, g0, g4⟩ := draw_ok h4 (m := 2) (by decide)
  rw [e4, bind_ok, nxK_nx, e6, bind_ok, eq_i, opt_some, tup_l, opt_some, ap_ok (by omega), opt_some, e5, List.nil_append]
  exact ⟨_, _, rfl, ⟨h6, rfl⟩, _, ⟨g == 0, ds3, rows3, ha3, by omega, by omega, rfl, rfl⟩, by simp only [List.length_cons]; omega⟩
theorem entries_b {l : List D} (hl : NamesOk l) (y : D) (c : List D × List D) (acc : List D) (hc : TapeOk c.1 ∧ c.2 = acc) (ha : acc.length < 1000) : ∃ d c', b10__law_any_parts l y c = .ok (.nx c') ∧ (TapeOk c'.1 ∧ c'.2 = acc ++ [d]) ∧ ∃ cs, EntryP d cs ∧ cs.length ≤ 6035 := by
  have hb := sizeLine_eq
  have hne := hl.ne
  have hle := hl.le
  obtain ⟨c1, c2⟩ := c
  obtain ⟨hc, ec⟩ := hc
  have ec : c2 = acc := ec
  subst ec
  unfold b10__law_any_parts
  simp only
  obtain ⟨v, t1, e1, h1, v0, v1⟩ := draw_ok hc (m := (l.length : Int) + 2) (by omega)
  have v1 := v1 (by omega)
  obtain ⟨dk, ck, e2, hk, lk⟩ : ∃ dk ck, ixD (.list (l ++ [.none, .none])) (.int v) = some dk ∧ KeyP dk ck ∧ ck.length ≤ 18 := by
    by_cases z : v < l.length
    · have hv : v.toNat < l.length := by omega
      obtain ⟨y, hy, e⟩ := hl.all l[v.toNat] (List.getElem_mem hv)
      have := (nameC hy).2
      exact ⟨.str y, _, ix_li v0 (by rw [List.getElem?_append_left hv, List.getElem?_eq_getElem hv, e]), .inr ⟨.str y, strC y, (nameC hy).1, rfl, rfl⟩, by rw [List.length_cons]; omega⟩
    · refine ⟨.none, [0], ix_li v0 ?_, .inl ⟨rfl, rfl⟩, by decide⟩
      rw [List.getElem?_append_right (by omega)]
      have : v.toNat - l.length = 0 ∨ v.toNat - l.length = 1 := by omega
      rcases this with q | q <;> rw [q] <;> rfl
  obtain ⟨w, t2, e3, h3, w0, w4⟩ := draw_ok h1 (m := 4) (by decide)
  have w4 := w4 (by decide)
  obtain ⟨d, t3, cs, e4, h4, p4, l4⟩ := any_argument hl (1 + w.toNat) 8 (by omega) (by omega) t2 h3
  have l4' := ab_le (n := 1 + w.toNat) (by omega)
  obtain ⟨a, t4, e5, h5, a0, a1⟩ := draw_ok h4 (m := l.length) (by omega)
  obtain ⟨x, hx, e6⟩ := hl.pick a0 (a1 (by omega))
  obtain ⟨hxn, hxl⟩ := nameC hx
  rw [add_l (by simp only [List.length_cons, List.length_nil]; omega), opt_some, len_l, opt_some, add_i, opt_some, e1, bind_ok, e2, opt_some, e3, bind_ok, add_i, opt_some, show (1 : Int) + w = ((1 + w.toNat : Nat) : Int) by omega, e4, bind_ok]
  rw [opt_some, e5, bind_ok, e6, opt_some, ap_ok (by omega), opt_some]
  exact ⟨_, _, rfl, ⟨h5, rfl⟩, _, ⟨_, _, dk, ck, d, cs, hxn, hk, p4.mono (by omega), rfl, rfl⟩, by rw [List.length_append, List.length_append]; omega⟩
theorem parts_drawn {tp : List D} (ht : TapeOk tp) : ∃ d tp', m__law_any_parts tp = .ok (d, tp') ∧ TapeOk tp' ∧ Nonempty (PQ d) := by
  have hb := sizeLine_eq
  unfold m__law_any_parts
  obtain ⟨v, t1, e1, h1, v0, v4⟩ := draw_ok ht (m := 4) (by decide)
  have v4 := v4 (by decide)
  rw [e1, bind_ok, add_i, opt_some, rg1_ok (by omega), opt2_some]
  -- the names
  obtain ⟨l, c11, e2, ⟨h2, _, _⟩, hn, rows, ha, _⟩ := lc_drawI (B := b1__law_any_parts) (J := fun i c => TapeOk c.1 ∧ (∀ d ∈ c.2, NameD d) ∧ c.2.length = i) (P := NameP) (N := 17) (M := 5) (fun i y c hi ⟨hc, hu, hul⟩ => by
    obtain ⟨x, tp', e, h', hx⟩ := fresh_ok hc hu (by omega)
    refine ⟨.str x, (tp', c.2 ++ [.str x]), ?_, ⟨h', fun d hd => ?_, by rw [List.length_append, List.length_singleton, hul]⟩, strC x, (nameC hx).1, (nameC hx).2⟩
    · unfold b1__law_any_parts
      rw [e, bind_ok]
    · rcases List.mem_append.mp hd with q | q
      · exact hu d q
      · rcases List.mem_singleton.mp q with rfl
        exact ⟨x, hx, rfl⟩) (rngD 0 (2 + v)) 0 (t1, []) [] ⟨h1, (fun d hd => by cases hd), rfl⟩ (by rw [rng_len]; omega) (by rw [rng_len, List.length_nil]; omega)
  rw [rng_len] at hn
  have hl : NamesOk l := ⟨by omega, by omega, names_of ha⟩
  rw [e2, bind2_ok, List.nil_append]
  -- the rules
  obtain ⟨w, t3, e3, h3, w0, w4⟩ := draw_ok h2 (m := 4) (by decide)
  have w4 := w4 (by decide)
  obtain ⟨dr, c3, e4, ⟨h4, e4'⟩, hn4, rr, ha4, hr4⟩ := for_draw (B := b3__law_any_parts l) (st := fun c _ => c) (J := fun c acc => TapeOk c.1 ∧ c.2 = acc) (P := RuleP) (N := 2200) (rules_b hl) (rngD 0 w) (t3, []) [] ⟨h3, rfl⟩ (by rw [rng_len, List.length_nil]; omega)
  rw [rng_len] at hn4 hr4
  have hr4' : rr.flatten.length ≤ 2200 * 3 := Nat.le_trans hr4 (Nat.mul_le_mul_left _ (by omega))
  rw [e3, bind_ok, rg1_ok (by omega), opt2_some, e4, bind_ok, nxK_nx]
  -- the blocks
  obtain ⟨g, t5, e5, h5, g0, g3⟩ := draw_ok h4 (m := 3) (by decide)
  have g3 := g3 (by decide)
  obtain ⟨db, c5, e6, ⟨h6, e6'⟩, hn6, rb, ha6, hr6⟩ := for_draw (B := b9__law_any_parts l) (st := fun c _ => c) (J := fun c acc => TapeOk c.1 ∧ c.2 = acc) (P := BlockP) (N := 2002) (blocks_b hl) (rngD 0 g) (t5, []) [] ⟨h5, rfl⟩ (by rw [rng_len, List.length_nil]; omega)
  rw [rng_len] at hn6 hr6
  have hr6' : rb.flatten.length ≤ 2002 * 2 := Nat.le_trans hr6 (Nat.mul_le_mul_left _ (by omega))
  rw [e5, bind_ok, rg1_ok (by omega), opt2_some, e6, bind_ok, nxK_nx]
  -- the entries
  obtain ⟨k, t7, e7, h7, k0, k3⟩ := draw_ok h6 (m := 3) (by decide)
  have k3 := k3 (by decide)
  obtain ⟨de, c7, e8, ⟨h8, e8'⟩, hn8, re, ha8, hr8⟩ := for_draw (B := b10__law_any_parts l) (st := fun c _ => c) (J := fun c acc => TapeOk c.1 ∧ c.2 = acc) (P := EntryP) (N := 6035) (entries_b hl) (rngD 0 k) (t7, []) [] ⟨h7, rfl⟩ (by rw [rng_len, List.length_nil]; omega)
  rw [rng_len] at hn8 hr8
  have hr8' : re.flatten.length ≤ 6035 * 2 := Nat.le_trans hr8 (Nat.mul_le_mul_left _ (by omega))
  rw [e7, bind_ok, rg1_ok (by omega), opt2_some, e8, bind_ok, nxK_nx]
  -- the imports
  obtain ⟨q, t9, e9, h9, q0, q3⟩ := draw_ok h8 (m := 3) (by decide)
  have q3 := q3 (by decide)
  obtain ⟨di, t10, e10, h10, hn10, ri, ha10, hr10⟩ := lc_draw (B := b11__law_any_parts l) (J := TapeOk) (P := NameP) (N := 17) (fun y c hc => by
    obtain ⟨a, t, f1, k1, a0, a1⟩ := draw_ok hc (m := l.length) (by have := hl.le; omega)
    obtain ⟨x, hx, f2⟩ := hl.pick a0 (a1 (by have := hl.ne; omega))
    refine ⟨.str x, t, ?_, k1, strC x, (nameC hx).1, (nameC hx).2⟩
    unfold b11__law_any_parts
    rw [len_l, opt_some, f1, bind_ok, f2, opt_some]) (rngD 0 q) t9 [] h9 (by rw [rng_len, List.length_nil]; omega)
  rw [rng_len] at hn10 hr10
  have hr10' : ri.flatten.length ≤ 17 * 2 := Nat.le_trans hr10 (Nat.mul_le_mul_left _ (by omega))
  obtain ⟨x, hx, e11⟩ := hl.pick (v := 0) (by decide) (by have := hl.ne; omega)
  rw [e9, bind_ok, rg1_ok (by omega), opt2_some, e10, bind2_ok, List.nil_append, tup_l, opt_some, e11, opt_some, tup_l, opt_some, tup_l, opt_some, tup_l, opt_some, e4', e6', e8', List.nil_append, List.nil_append, List.nil_append]
  exact ⟨_, _, rfl, h10, ⟨x, .tuple di, _, dr, rr, .tuple db, _, de, re, rfl, hx, rows_of ha10 (by omega), ha4, by omega, rows_of ha6 (by omega), ha8, by omega, by simp only [List.length_cons]; omega⟩⟩
/-! ### the deep ones -/
def dp (x : Str) : Nat → D
  | 0 => .tuple [.str x]
  | n + 1 => .tuple [.str x, dp x n]
def dpc (x : Str) : Nat → List Int
  | 0 => 1 :: strC x
  | n + 1 => 2 :: (strC x ++ dpc x n)
theorem dp_tm {x : Str} (hx : NameOk x) : ∀ n, Tm (n + 1) (dp x n) (dpc x n) ∧ (dpc x n).length ≤ 18 * (n + 1)
  | 0 => by
    have := hx.le
    refine ⟨.inr ⟨x, [], [], hx, hx.le, .nil, by decide, rfl, by simp [dpc]⟩, ?_⟩
    show (1 :: strC x).length ≤ _
    rw [List.length_cons, strC_len]
    omega
  | n + 1 => by
    have := hx.le
    obtain ⟨h1, h2⟩ := dp_tm hx n
    refine ⟨.inr ⟨x, [dp x n], [dpc x n], hx, hx.le, .cons h1 .nil, Nat.le_of_ble_eq_true rfl, rfl, by simp [dpc]⟩, ?_⟩
    show (2 :: (strC x ++ dpc x n)).length ≤ _
    rw [List.length_cons, List.length_append, strC_len]
    omega
theorem deep_ok {x : Str} : ∀ (n : Nat), n ≤ 100 → ∀ m : Int, m = n + 1 → m__law_deep (.str x, .int m) = .ok (dp x n) := by
  intro n hn m hm
  subst hm
  unfold m__law_deep
  simp only
  rw [sub_i, opt_some, rg1_ok (by omega), opt2_some]
  have loop : ∀ (ys : List D) (k : Nat), forL (b1__law_deep (.str x, .int ((n : Int) + 1))) ys (dp x k) = .ok (.nx (dp x (k + ys.length))) := by
    intro ys
    induction ys with
    | nil => intro k; rfl
    | cons y ys ih =>
      intro k
      show forL _ ys (dp x (k + 1)) = _
      rw [ih (k + 1), List.length_cons, show k + 1 + ys.length = k + (ys.length + 1) by omega]
  rw [show (PyData.tuple [.str x]) = dp x 0 from rfl, loop, bind_ok, nxK_nx, rng_len, show 0 + ((n : Int) + 1 - 1 - 0).toNat = n by omega]
theorem args_deep {d0 : D} {c0 : List Int} (h0 : ArgP 1 d0 c0) : ∀ (ys : List D) (n : Nat) (d : D) (cs : List Int), (∀ y ∈ ys, ∃ k : Int, (0 ≤ k ∧ k ≤ 255) ∧ y = .int k) → ArgP n d cs → ∃ d' cs', forL b1_law ys d = .ok (.nx d') ∧ ArgP (n + ys.length) d' cs' ∧ cs'.length = cs.length + 4 * ys.length
  | [], n, d, cs, _, h => ⟨d, cs, rfl, h, rfl⟩
  | y :: ys, n, d, cs, hy, h => by
    obtain ⟨k, hk, e⟩ := hy y (List.Mem.head _)
    subst e
    have e0 : strC "" = [0] := by decide +kernel
    have h1 : ArgP (n + 1) (.tuple [(.tuple [(.str "invert"), .int k]), (.tuple [(.tuple [(.str ""), d])])]) ([4, k] ++ (((1 : Nat) : Int) :: [([0] ++ cs)].flatten)) :=
      ⟨_, _, [.tuple [.str "", d]], [[0] ++ cs], .inl ⟨k, hk, rfl, rfl⟩, .cons ⟨.str "", [0], d, cs, ⟨"", .inr rfl, rfl, e0.symm⟩, h, rfl, rfl⟩ .nil, by simp, rfl, rfl⟩
    obtain ⟨d', cs', e1, h2, hl⟩ := args_deep h0 ys (n + 1) _ _ (fun y q => hy y (List.Mem.tail _ q)) h1
    refine ⟨d', cs', e1, by rw [List.length_cons, show n + (ys.length + 1) = n + 1 + ys.length by omega]; exact h2, ?_⟩
    rw [hl]
    simp only [List.length_cons, List.length_append, List.flatten_cons, List.flatten_nil, List.length_nil, List.append_nil]
    omega
theorem cut2 {a b c d e : D} : slD (.tuple [a, b, c, d, e]) none (some 2) = some (.tuple [a, b]) := by
  show some (PyData.tuple (cutL [a, b, c, d, e] none (some 2))) = _
  unfold cutL
  rw [show (2 : Int) = ((2 : Nat) : Int) from rfl, sIx_nat, show HT.sIx [a, b, c, d, e].length 0 none = 0 from rfl]
  rfl
/-- THE LAW -/
theorem law_true (ns : List Int) : m_law (I ns) = .ok true := by
  have hs := sizeLine_eq
  obtain ⟨tp, e1, h1⟩ := tape_ok ns
  obtain ⟨d, t2, e2, h2, ⟨q⟩⟩ := parts_drawn h1
  obtain ⟨v, t3, e3, h3, v0, v6⟩ := draw_ok h2 (m := 6) (by decide)
  obtain ⟨x, di, ci, dr, rr, db, cb, de, re, ed, hx, hi, hr, lr, hb, he, le, sz⟩ := q
  subst ed
  obtain ⟨hxn, hxl⟩ := nameC hx
  unfold m_law
  rw [e1, bind_ok, e2, bind_ok]
  simp only
  rw [e3, bind_ok, eq_i]
  by_cases z : v = 0
  · rw [show (v == 0) = true by simpa using z, ite_t, x0, opt_some, deep_ok 19 (by decide) 20 rfl, bind_ok, rg1_ok (by decide), opt2_some]
    obtain ⟨k20, l20⟩ := dp_tm hx 19
    obtain ⟨k19, l19⟩ := dp_tm hx 18
    -- the argument
    have h0 : ArgP 1 (.tuple [(.tuple [(.str "done"), (.int 0), (.tuple [dp x 19])]), (.tuple [])]) ((1 :: (0 :: ((([dp x 19] : List D).length : Int) :: [dpc x 19].flatten))) ++ ((([] : List D).length : Int) :: ([] : List (List Int)).flatten)) :=
      ⟨_, _, [], [], .inr (.inl ⟨0, _, _, by decide, ⟨[dp x 19], [dpc x 19], .cons k20 .nil, Nat.le_of_ble_eq_true rfl, rfl, rfl⟩, rfl, rfl⟩), .nil, by decide, rfl, rfl⟩
    obtain ⟨da, ca, e4, pa, la⟩ := args_deep h0 (rngD 0 59) 1 _ _ (fun y hy => by
      obtain ⟨i, hi⟩ := List.mem_iff_getElem?.mp hy
      have hil : i < (rngD 0 59).length := (List.getElem?_eq_some_iff.mp hi).1
      rw [rng_len] at hil
      rw [rng_get (by omega)] at hi
      exact ⟨0 + (i : Int), by omega, by cases hi; rfl⟩) h0
    rw [rng_len] at pa la
    rw [e4, bind_ok, nxK_nx, opt_some, opt_some, deep_ok 18 (by decide) 19 rfl, bind_ok, opt_some, deep_ok 19 (by decide) 20 rfl, bind_ok, asInt_i, opt_some, cut2, opt_some, x2, opt_some]
    rw [add_t (by rw [List.length_singleton]; omega), opt_some, x3, opt_some, x4, opt_some, opt_some, add_t (by rw [List.length_singleton]; omega), opt_some, add_t (by simp only [List.length_cons, List.length_nil]; omega), opt_some, bind_ok, nxK_nx]
    -- the rule
    have pr : RuleP (.tuple [.str x, (.tuple [(.tuple [(.str "="), dp x 18, (.int 0)])]), dp x 19]) (strC x ++ ((((1 : Nat) : Int) :: [(((2 + 1 : Nat) : Int) :: (strC sEq ++ [dpc x 18, [0, 0 / 256, 0 % 256]].flatten))].flatten) ++ dpc x 19)) := by
      refine ⟨_, _, _, _, _, _, hxn, ⟨[_], [_], .cons ⟨sEq, [dp x 18, .int 0], [dpc x 18, [0, 0 / 256, 0 % 256]], .inr ⟨rfl, rfl⟩, by decide +kernel, .cons k19 (.cons (.inl ⟨0, by decide, by decide, rfl, rfl⟩) .nil), Nat.le_of_ble_eq_true rfl, rfl, rfl⟩ .nil, Nat.le_of_ble_eq_true rfl, rfl, rfl⟩, ?_, rfl, rfl⟩
      refine ⟨x, [dp x 18], [dpc x 18], .inl hx, hx.le, .cons k19 .nil, Nat.le_of_ble_eq_true rfl, rfl, ?_⟩
      show (2 :: (strC x ++ dpc x 18)) = _
      simp
    have pe : EntryP (.tuple [.str x, .none, da]) (strC x ++ ([0] ++ ca)) := ⟨_, _, _, _, _, _, hxn, .inl ⟨rfl, rfl⟩, pa, rfl, rfl⟩
    have pp : PartsP (.tuple ([PyData.str x, di] ++ [.tuple (dr ++ [.tuple [.str x, (.tuple [(.tuple [(.str "="), dp x 18, (.int 0)])]), dp x 19]]), db, .tuple (de ++ [.tuple [.str x, .none, da]])])) _ :=
      ⟨_, _, _, _, _, _, _, _, _, _, hxn, hi, rows_of (hr.append (.cons pr .nil)) (by rw [List.length_append, List.length_singleton]; omega), hb, rows_of (he.append (.cons pe .nil)) (by rw [List.length_append, List.length_singleton]; omega), rfl, rfl⟩
    refine parts_ok pp ?_
    have le1 : (strC sEq).length = 2 := by decide +kernel
    simp only [List.length_append, List.length_cons, List.length_nil, List.flatten_append, List.flatten_cons, List.flatten_nil] at la ⊢
    omega
  · rw [show (v == 0) = false by simpa using z, ite_f, bind_ok, nxK_nx]
    refine parts_ok ⟨_, _, _, _, _, _, _, _, _, _, hxn, hi, rows_of hr (by omega), hb, rows_of he (by omega), rfl, rfl⟩ ?_
    simp only [List.length_append, List.length_cons, List.length_nil]
    omega
end MX

set_option Elab.async false
set_option linter.all false
set_option maxRecDepth 100000
/-! MXEnd: from the promise of the def law to the row's statement. -/
namespace MX
open PySem PySem.Spec PyProof.Rows L2

def lawE (a : List D) : List Ag := [.z a]
theorem ints_rep {K : PySem.W.Frag} {F : Addr → Prop} {H : Hp} : ∀ ns : List Int, RepL K F H (ns.map V.int) (ns.map PyData.int)
  | [] => .nil
  | n :: ns => .cons (.int n) (ints_rep ns)
/-- the promise, used at a heap in which at most the script is tracked, and stands locked -/
theorem law_at {P : Program} {w : World} {K : PySem.W.Frag} {mg mb : Str → Option Value} {k : Nat} {fa a : Addr} {x : Str} {mf : List D → R Bool} {z : Shared} {vs : List Value} {ns : List Int} {H : Hp}
    (inK : K.In z.heap) (top : z.heap.Ns mainGlobals mg) (bn : z.heap.Ns builtinsNs mb) (bv : ∀ y : Str, y ≠ "__name__" → mb y = bootBuiltins y) (nl : z.heap.NoLimit) (g0 : z.gens = #[]) (at_a : z.heap.get? a = some { cls := .type "list", data := .seq vs.toArray }) (room : Room k callerA)
    (hf : mg "law" = some (.ref fa)) (has : ∀ base : Heap, K.In base → base.Ns mainGlobals mg → Has P w K mg base k "law" [x] lawE erB mf) (true_ : mf (ns.map .int) = .ok true)
    (ok : HOk P w H z.heap) (fz : Fz K H a (ns.map V.int)) (few : ∀ b u, H b = some u → b = a ∧ K.lookup a = none ∧ ∃ ob xs, u = .frz ob (.lst xs)) :
    codeAny (model P w) callerA (.call (.ref fa) ⟨[.ref a], []⟩) (fun r y => r = .ok (.ret (.bool true)) ∧ OldK z.heap y.heap ∧ y.os = z.os ∧ AllBare y.gens) z := by
  have free : ∀ {b : Addr} {o : Obj}, z.heap.get? b = some o → (b = a → K.lookup a = none → False) → H b = none := fun {b o} _ n => by
    cases q : H b with
    | none => rfl
    | some u => exact (n (few b u q).1 (few b u q).2.1).elim
  have names : ∀ {b : Addr} {m : Str → Option Value}, z.heap.Ns b m → (hidT z.heap H).Ns b m := fun {b m} ⟨o, es, ep, e, d, r⟩ => by
    refine ⟨o, es, ep, hidT_get e (free e fun q _ => ?_), d, r⟩
    rw [q, at_a] at e
    cases e
    have d : Data.seq vs.toArray _ = Data.dict es ep := d
    cases d
  have kin : K.In (hidT z.heap H) := fun b o e => hidT_get (inK b o e) (free (inK b o e) fun q n => by rw [q, n] at e; cases e)
  have md : Mod K mg (hidT z.heap H) := ⟨kin, names top, ⟨mb, names bn, bv⟩, nl.elim fun m q => ⟨m, names q.1, q.2⟩⟩
  have env : Env0 P w K mg (hidT z.heap H) callerA [] z H := { frames := rfl, mod := md, bs := fun b o e => of_hidT e, bsz := Nat.le_of_eq (hidT_size _ _), funs := trivial, frf := fun b hb => absurd (show b ∈ ([] : List Addr) from hb) List.not_mem_nil, hok := ok, bare := .of_eq g0 }
  obtain ⟨f, fd, h1, _, h3, h4⟩ := (has _ kin (names top)).at_
  rw [hf] at h1
  cases h1
  have bt := h3 z [.ref a] inK rfl
  rw [List.append_nil] at bt
  have en : Entry K mg (fun _ => False) H (fun _ => none) [.ref a] (lawE (ns.map .int)) := ⟨⟨⟨⟨a, _, rfl, fz, ints_rep ns⟩, rfl⟩, trivial⟩, fun _ h => h.elim, fun _ _ h => (nomatch h), fun _ _ _ h => (nomatch h), fun _ _ h => (nomatch h)⟩
  refine codeAny_mono (h4.run callerA [] z H ⟨[.ref a], []⟩ [.ref a] [.ref a] (fun v _ => v = .bl true) (fun _ _ _ => False) room rfl env bt (.cons rfl .nil) ⟨_, _, _, en, ?_⟩) fun r y hr => ?_
  · rw [true_]
    intro F' H' v po
    have rv : Rep K F' H' v (.bool true) := po.2.1
    cases rv
    rfl
  · match r, hr with
    | .error e, hr =>
      obtain ⟨_, _, _, _, _, _, _, _, _, _, _, _, no⟩ := hr
      exact no.elim
    | .ok .next, hr => exact (hr : False).elim
    | .ok .brk, hr => exact (hr : False).elim
    | .ok .cont, hr => exact (hr : False).elim
    | .ok (.ret u), hr =>
      obtain ⟨v, H2, os, bare, un, ok2, rel, rfl⟩ := hr
      cases (rel : u = Value.bool true)
      refine ⟨rfl, OldK.of_keep fun b o e => ?_, os, bare⟩
      cases q : H b with
      | none => exact un.keep b o e q (fun m => absurd (show b ∈ ([] : List Addr) from m) List.not_mem_nil) List.not_mem_nil
      | some t =>
        obtain ⟨_, _, ob, xs, rfl⟩ := few b t q
        have e1 := (ok b _ q).1
        have e2 := (ok2 b _ (un.frzs b ob _ q)).1
        rw [e1] at e
        cases e
        exact e2
/-- the goal hc that k_head leaves -/
theorem law_walk {l : PySem.W.OpenLaw} {n k : Nat} {q : Program} {loose : List Str} {XP : (Str → Option Value) → Heap → Prop} {YP : World → Heap → Prop} {d : DefRec} {K : Params → PySem.W.Frag} {x : Str} {mf : List D → R Bool}
    (hn : l.most = some n) (small : n ≤ sizeLine) (nodef : d.params.defaults = []) (isLaw : d.name = "law") (room : Room k callerA) (hY : ∀ (w : World) (h : Heap), YP w h → (K w.params).In h) (true_ : ∀ ns : List Int, ns.length ≤ n → mf (ns.map .int) = .ok true)
    (has : ∀ (w : World) (mg : Str → Option Value) (h : Heap), (K w.params).In h → h.Ns mainGlobals mg → ∀ base : Heap, (K w.params).In base → base.Ns mainGlobals mg → Has l.prog w (K w.params) mg base k "law" [x] lawE erB mf) :
    PySem.W.WalkO q loose XP YP l.row.toRowW d [] (fun f vs => PySem.call f vs) := by
  refine Att.attach_call hn nodef fun w _ z mg mb fa _ _ _ _ a vs ns G Y _ _ _ hf at_a whole len g0 => ?_
  have inK := hY w _ Y
  rw [isLaw] at hf
  have go := fun (H : Hp) ok fz few => law_at (H := H) (ns := ns) inK G.T.g G.T.b G.T.builtins G.T.nolimit g0 at_a room hf (has w mg _ inK G.T.g) (true_ ns len) ok fz few
  have rv := vals_ints whole
  have lv := whole.length
  cases hk : (K w.params).lookup a with
  | some o =>
    have e := inK a o hk
    rw [at_a] at e
    cases e
    exact go (fun _ => none) (fun _ _ no => (nomatch no)) (.inr (.inr ⟨_, vs.toArray, _, hk, rfl, rfl, rfl, by rw [List.size_toArray, lv]; omega, by simpa using rv⟩)) fun _ _ no => (nomatch no)
  | none =>
    refine go (upd (fun _ => none) a (.frz { cls := .type "list", data := .seq vs.toArray } (.lst (ns.map V.int)))) (fun b u e => ?_) (.inl ⟨_, upd_same⟩) fun b u e => ?_
    all_goals
      by_cases hb : b = a
      · subst hb
        rw [upd_same] at e
        cases e
        first
          | exact ⟨at_a, by rw [List.length_map]; omega, vs, _, rv, at_a⟩
          | exact ⟨rfl, hk, _, _, rfl⟩
      · rw [upd_ne hb] at e
        cases e
end MX
namespace MX
open PySem PySem.Spec PyProof.Rows L2
/-! ### what the top has written -/
section
variable {K : PySem.W.Frag} {h : Heap} {mg : Str → Option Value} {x : Str}
theorem DefAt.of {st : Stmt} {ps : List Str} {f : Addr} {oc : Value} {od an : Option Addr} {osl : Array (Option Value)} {kV dc pm cd ct : Value} (X : K.In h) (G : h.Ns mainGlobals mg) (a : PySem.W.nsIn K mainGlobals x = some (some (.ref f)))
    (l : K.lookup f = some ⟨oc, od, .func (PySem.W.fnOf x x (defArgs st) (defBody st) (defScope st) .none kV dc pm an cd ct), osl⟩) (c : PySem.W.codeIn K cd x = true) (k : PySem.W.keepIn K (.ref f) = true)
    (hb : ∀ (kV doc pm : Value) (an : Option Addr) (cdv ct : Value) (us : List Value), us.length = ps.length → bindArgs (PySem.W.fnOf x x (defArgs st) (defBody st) (defScope st) .none kV doc pm an cdv ct) ⟨us, []⟩ = pure (ps.zip us)) : DefAt K mg x st ps :=
  have fn := fun_mk (st := st) l c k
  ⟨f, _, PySem.W.mg_of X G a, k, fn.binds hb, fn⟩
/-- a plain value of the top -/
def valD : Value → Option D
  | .int i _ => some (.int i)
  | .str y _ => some (.str y)
  | .bool b => some (.bool b)
  | .none => some .none
  | _ => none
theorem val_rep {u : Value} {d : D} (e : valD u = some d) : ∃ v, RelV v u ∧ ∀ F H, Rep K F H v d := by
  unfold valD at e
  split at e <;> cases e
  · exact ⟨.int _, ⟨_, rfl⟩, fun _ _ => .int _⟩
  · exact ⟨.str _, ⟨_, rfl⟩, fun _ _ => .str _⟩
  · exact ⟨.bl _, rfl, fun _ _ => .bl _⟩
  · exact ⟨.non, rfl, fun _ _ => .non⟩
theorem vals_rep : ∀ {us : List Value} {ds : List D}, us.map valD = ds.map some → ∃ vs, Vals vs us ∧ ∀ F H, RepL K F H vs ds
  | [], [], _ => ⟨[], .nil, fun _ _ => .nil⟩
  | u :: us, d :: ds, e => by
    rw [List.map_cons, List.map_cons] at e
    obtain ⟨v, r, q⟩ := val_rep (K := K) (List.cons.inj e).1
    obtain ⟨vs, rs, qs⟩ := vals_rep (List.cons.inj e).2
    exact ⟨v :: vs, .cons r rs, fun F H => .cons (q F H) (qs F H)⟩
  | [], _ :: _, e => by cases e
  | _ :: _, [], e => by cases e
theorem cst_val {u : Value} {d : D} (X : K.In h) (G : h.Ns mainGlobals mg) (a : PySem.W.nsIn K mainGlobals x = some (some u)) (e : valD u = some d) : Cst K mg x d := by
  obtain ⟨v, r, q⟩ := val_rep (K := K) e
  exact ⟨v, u, PySem.W.mg_of X G a, r, q⟩
theorem cst_tup {p : Addr} {its : Array Value} {n : Nat} {dd : Option Addr} {sl : Array (Option Value)} {ds : List D} (X : K.In h) (G : h.Ns mainGlobals mg) (a : PySem.W.nsIn K mainGlobals x = some (some (.ref p))) (l : K.lookup p = some ⟨.type "tuple", dd, .seq its n, sl⟩)
    (s : its.size ≤ sizeLine) (r : its.toList.map valD = ds.map some) : Cst K mg x (.tuple ds) := by
  obtain ⟨vs, rs, q⟩ := vals_rep (K := K) r
  exact ⟨.ref p, .ref p, PySem.W.mg_of X G a, rfl, fun F H => .tup (.inr ⟨_, its, n, l, rfl, rfl, s, rs⟩) (q F H)⟩
def keyS : Value → Option Str
  | .str y _ => some y
  | _ => none
theorem find_tab : ∀ {es : List DictEntry} {tab : List (Str × D)}, es.map (fun e => (keyS e.key, valD e.val)) = tab.map (fun p => (some p.1, some p.2)) → ∀ {z : Str} {d : D}, tab.lookup z = some d → ∃ e, es.find? (fun e => e.key.isStr z) = some e ∧ valD e.val = some d
  | [], [], _, z, d, q => by cases q
  | e :: es, (y, c) :: tab, r, z, d, q => by
    rw [List.map_cons, List.map_cons] at r
    obtain ⟨r1, r2⟩ := List.cons.inj r
    have k1 : keyS e.key = some y := congrArg Prod.fst r1
    have k2 : valD e.val = some c := congrArg Prod.snd r1
    have ks : e.key.isStr z = (y == z) := by
      unfold keyS at k1
      split at k1
      · rename_i w t hw
        cases k1
        rw [hw]
        rfl
      · cases k1
    rw [List.lookup_cons] at q
    by_cases hz : z = y
    · subst hz
      simp only [beq_self_eq_true] at q
      cases q
      exact ⟨e, by rw [List.find?_cons, ks]; simp, k2⟩
    · rw [show (z == y) = false by simpa using hz] at q
      obtain ⟨e', h1, h2⟩ := find_tab r2 q
      exact ⟨e', by rw [List.find?_cons, ks, show (y == z) = false by simpa using fun q => hz q.symm]; exact h1, h2⟩
  | [], _ :: _, r, _, _, _ => by cases r
  | _ :: _, [], r, _, _, _ => by cases r
theorem cst_dict {w : World} {p : Addr} {es : Array DictEntry} {n : Nat} {tab : List (Str × D)} (X : K.In h) (G : h.Ns mainGlobals mg) (a : PySem.W.nsIn K mainGlobals x = some (some (.ref p))) (l : K.lookup p = some ⟨.type "dict", none, .dict es n, #[]⟩) (k : PySem.W.KeysLit w.params es.toList)
    (r : es.toList.map (fun e => (keyS e.key, valD e.val)) = tab.map (fun p => (some p.1, some p.2))) : DCst K w mg x tab := by
  refine ⟨p, PySem.W.mg_of X G a, fun z d q => ?_⟩
  obtain ⟨e, h1, h2⟩ := find_tab r q
  obtain ⟨v, rv, qv⟩ := val_rep (K := K) h2
  refine ⟨v, ⟨es, n, e.val, l, k, ?_, rv⟩, qv⟩
  unfold PySem.W.nsIn
  have l' : List.lookup p K = some ⟨.type "dict", none, .dict es n, #[]⟩ := l
  rw [l']
  dsimp only
  rw [h1]
end
/-- the part of the heap that a fact speaks of -/
abbrev kOf {K : PySem.W.Frag} {h : Heap} (_ : K.In h) : PySem.W.Frag := K
end MX

set_option Elab.async false
set_option linter.all false
set_option maxRecDepth 100000
namespace MX
open PySem PySem.Spec PyProof.Rows L2
section
variable {P : Program} {w : World} {K : PySem.W.Frag} {mg : Str → Option Value} {base : Heap}
structure Defs (K : PySem.W.Frag) (mg : Str → Option Value) : Prop where
  d_write_name : DefAt K mg "write_name" s_write_name P_write_name
  d_write_term : DefAt K mg "write_term" s_write_term P_write_term
  d_write_terms : DefAt K mg "write_terms" s_write_terms P_write_terms
  d_write_numbers : DefAt K mg "write_numbers" s_write_numbers P_write_numbers
  d_write_rules : DefAt K mg "write_rules" s_write_rules P_write_rules
  d_write_claim : DefAt K mg "write_claim" s_write_claim P_write_claim
  d_write_blocks : DefAt K mg "write_blocks" s_write_blocks P_write_blocks
  d_write_step : DefAt K mg "write_step" s_write_step P_write_step
  d_write_argument : DefAt K mg "write_argument" s_write_argument P_write_argument
  d_write_entries : DefAt K mg "write_entries" s_write_entries P_write_entries
  d_numbers_of : DefAt K mg "numbers_of" s_numbers_of P_numbers_of
  d_number_at : DefAt K mg "number_at" s_number_at P_number_at
  d_sign_at : DefAt K mg "sign_at" s_sign_at P_sign_at
  d_read_name : DefAt K mg "read_name" s_read_name P_read_name
  d_read_arguments : DefAt K mg "read_arguments" s_read_arguments P_read_arguments
  d_read_term : DefAt K mg "read_term" s_read_term P_read_term
  d_read_atom : DefAt K mg "read_atom" s_read_atom P_read_atom
  d_read_terms : DefAt K mg "read_terms" s_read_terms P_read_terms
  d_read_atoms : DefAt K mg "read_atoms" s_read_atoms P_read_atoms
  d_read_numbers : DefAt K mg "read_numbers" s_read_numbers P_read_numbers
  d_read_rule : DefAt K mg "read_rule" s_read_rule P_read_rule
  d_read_claim : DefAt K mg "read_claim" s_read_claim P_read_claim
  d_read_block : DefAt K mg "read_block" s_read_block P_read_block
  d_read_step : DefAt K mg "read_step" s_read_step P_read_step
  d_read_label : DefAt K mg "read_label" s_read_label P_read_label
  d_read_argument : DefAt K mg "read_argument" s_read_argument P_read_argument
  d_read_entry : DefAt K mg "read_entry" s_read_entry P_read_entry
  d_read_rows : DefAt K mg "read_rows" s_read_rows P_read_rows
  d_parts_of : DefAt K mg "parts_of" s_parts_of P_parts_of
  d__law_draw : DefAt K mg "_law_draw" s__law_draw P__law_draw
  d__law_word : DefAt K mg "_law_word" s__law_word P__law_word
  d__law_fresh : DefAt K mg "_law_fresh" s__law_fresh P__law_fresh
  d__law_written_name : DefAt K mg "_law_written_name" s__law_written_name P__law_written_name
  d__law_joined_up : DefAt K mg "_law_joined_up" s__law_joined_up P__law_joined_up
  d__law_written_term : DefAt K mg "_law_written_term" s__law_written_term P__law_written_term
  d__law_written_list : DefAt K mg "_law_written_list" s__law_written_list P__law_written_list
  d__law_written_terms : DefAt K mg "_law_written_terms" s__law_written_terms P__law_written_terms
  d__law_written_claim : DefAt K mg "_law_written_claim" s__law_written_claim P__law_written_claim
  d__law_written_argument : DefAt K mg "_law_written_argument" s__law_written_argument P__law_written_argument
  d__law_written : DefAt K mg "_law_written" s__law_written P__law_written
  d__law_any_term : DefAt K mg "_law_any_term" s__law_any_term P__law_any_term
  d__law_any_atom : DefAt K mg "_law_any_atom" s__law_any_atom P__law_any_atom
  d__law_any_argument : DefAt K mg "_law_any_argument" s__law_any_argument P__law_any_argument
  d__law_any_parts : DefAt K mg "_law_any_parts" s__law_any_parts P__law_any_parts
  d__law_deep : DefAt K mg "_law_deep" s__law_deep P__law_deep
  d__law_tape : DefAt K mg "_law_tape" s__law_tape P__law_tape
  d__law_alike : DefAt K mg "_law_alike" s__law_alike P__law_alike
  d_law : DefAt K mg "law" s_law P_law
theorem h_write_term {k : Nat} (hD : DefAt K mg "write_term" s_write_term P_write_term) (B : Bl K w mg) (h_write_name : Has P w K mg base k "write_name" P_write_name ea_write_name (erW 1) m_write_name) (n : Nat) : Has P w K mg base (k + n) "write_term" P_write_term ea_write_term (erW 1) (m_write_term n) := by
  induction n with
  | zero => exact Has.stuck hD (fun _ => rfl) cov_write_term
  | succ n ih => exact hg_write_term (k := k + n) (hD := hD) (B := B) (h_write_term := ih) (h_write_name := h_write_name.mono (by omega))
theorem h_write_argument {k : Nat} (hD : DefAt K mg "write_argument" s_write_argument P_write_argument) (B : Bl K w mg) (h_write_step : Has P w K mg base k "write_step" P_write_step ea_write_step (erW 1) m_write_step) (h_write_name : Has P w K mg base k "write_name" P_write_name ea_write_name (erW 1) m_write_name) (n : Nat) : Has P w K mg base (k + n) "write_argument" P_write_argument ea_write_argument (erW 1) (m_write_argument n) := by
  induction n with
  | zero => exact Has.stuck hD (fun _ => rfl) cov_write_argument
  | succ n ih => exact hg_write_argument (k := k + n) (hD := hD) (B := B) (h_write_argument := ih) (h_write_step := h_write_step.mono (by omega)) (h_write_name := h_write_name.mono (by omega))
theorem h_read_argument {k : Nat} (hk : 7 ≤ k) (hD : DefAt K mg "read_argument" s_read_argument P_read_argument) (B : Bl K w mg) (h_read_step : Has P w K mg base k "read_step" P_read_step ea_read_step erD m_read_step) (h_number_at : Has P w K mg base k "number_at" P_number_at ea_number_at erD m_number_at) (h_read_label : Has P w K mg base k "read_label" P_read_label ea_read_label erD m_read_label) (n : Nat) : Has P w K mg base (k + n) "read_argument" P_read_argument ea_read_argument erD (m_read_argument n) := by
  induction n with
  | zero => exact Has.stuck hD (fun _ => rfl) cov_read_argument
  | succ n ih => exact hg_read_argument (k := k + n) (hk := by omega) (hD := hD) (B := B) (h_read_argument := ih) (h_read_step := h_read_step.mono (by omega)) (h_number_at := h_number_at.mono (by omega)) (h_read_label := h_read_label.mono (by omega))
theorem h__law_written_term {k : Nat} (hD : DefAt K mg "_law_written_term" s__law_written_term P__law_written_term) (B : Bl K w mg) (h__law_written_name : Has P w K mg base k "_law_written_name" P__law_written_name ea__law_written_name erD m__law_written_name) (h__law_joined_up : Has P w K mg base k "_law_joined_up" P__law_joined_up ea__law_joined_up erD m__law_joined_up) (n : Nat) : Has P w K mg base (k + n) "_law_written_term" P__law_written_term ea__law_written_term erD (m__law_written_term n) := by
  induction n with
  | zero => exact Has.stuck hD (fun _ => rfl) cov__law_written_term
  | succ n ih => exact hg__law_written_term (k := k + n) (hD := hD) (B := B) (h__law_written_term := ih) (h__law_written_name := h__law_written_name.mono (by omega)) (h__law_joined_up := h__law_joined_up.mono (by omega))
theorem h__law_written_argument {k : Nat} (hk : 7 ≤ k) (hD : DefAt K mg "_law_written_argument" s__law_written_argument P__law_written_argument) (B : Bl K w mg) (h__law_written_terms : Has P w K mg base k "_law_written_terms" P__law_written_terms ea__law_written_terms erD m__law_written_terms) (h__law_written_name : Has P w K mg base k "_law_written_name" P__law_written_name ea__law_written_name erD m__law_written_name) (h__law_written_list : Has P w K mg base k "_law_written_list" P__law_written_list ea__law_written_list erD m__law_written_list) (n : Nat) : Has P w K mg base (k + n) "_law_written_argument" P__law_written_argument ea__law_written_argument erD (m__law_written_argument n) := by
  induction n with
  | zero => exact Has.stuck hD (fun _ => rfl) cov__law_written_argument
  | succ n ih => exact hg__law_written_argument (k := k + n) (hk := by omega) (hD := hD) (B := B) (h__law_written_argument := ih) (h__law_written_terms := h__law_written_terms.mono (by omega)) (h__law_written_name := h__law_written_name.mono (by omega)) (h__law_written_list := h__law_written_list.mono (by omega))
theorem h__law_any_term {k : Nat} (hD : DefAt K mg "_law_any_term" s__law_any_term P__law_any_term) (B : Bl K w mg) (h__law_draw : Has P w K mg base k "_law_draw" P__law_draw ea__law_draw (erDW 0) m__law_draw) (n : Nat) : Has P w K mg base (k + n) "_law_any_term" P__law_any_term ea__law_any_term (erDW 0) (m__law_any_term n) := by
  induction n with
  | zero => exact Has.stuck hD (fun _ => rfl) cov__law_any_term
  | succ n ih => exact hg__law_any_term (k := k + n) (hD := hD) (B := B) (h__law_any_term := ih) (h__law_draw := h__law_draw.mono (by omega))
theorem h__law_any_argument {k : Nat} (hD : DefAt K mg "_law_any_argument" s__law_any_argument P__law_any_argument) (B : Bl K w mg) (h__law_draw : Has P w K mg base k "_law_draw" P__law_draw ea__law_draw (erDW 0) m__law_draw) (h__law_any_term : Has P w K mg base k "_law_any_term" P__law_any_term ea__law_any_term (erDW 0) (m__law_any_term 8)) (n : Nat) : Has P w K mg base (k + n) "_law_any_argument" P__law_any_argument ea__law_any_argument (erDW 0) (m__law_any_argument n) := by
  induction n with
  | zero => exact Has.stuck hD (fun _ => rfl) cov__law_any_argument
  | succ n ih => exact hg__law_any_argument (k := k + n) (hD := hD) (B := B) (h__law_any_argument := ih) (h__law_draw := h__law_draw.mono (by omega)) (h__law_any_term := h__law_any_term.mono (by omega))
theorem h_read_term {k : Nat} (hk : 7 ≤ k) (hD : DefAt K mg "read_term" s_read_term P_read_term) (hD2 : DefAt K mg "read_arguments" s_read_arguments P_read_arguments) (B : Bl K w mg) (h_number_at : Has P w K mg base k "number_at" P_number_at ea_number_at erD m_number_at) (h_read_name : Has P w K mg base k "read_name" P_read_name ea_read_name erD m_read_name) (n : Nat) : Has P w K mg base (k + 2 * n) "read_term" P_read_term ea_read_term erD (m_read_term n) := by
  induction n with
  | zero => exact Has.stuck hD (fun _ => rfl) cov_read_term
  | succ n ih => exact (hg_read_term (k := k + 2 * n + 1) (hk := by omega) (hD := hD) (B := B) (h_number_at := h_number_at.mono (by omega)) (h_read_name := h_read_name.mono (by omega)) (h_read_arguments := hg_read_arguments (k := k + 2 * n) (hD := hD2) (B := B) (h_read_term := ih))).mono (by omega)
/-- all defs, one upon the other -/
theorem all_defs (D : Defs K mg) (B : Bl K w mg) : Has P w K mg base 126 "law" P_law ea_law erB m_law := by
  have H_write_name : Has P w K mg base 1 "write_name" P_write_name ea_write_name (erW 1) m_write_name := h_write_name (k := 0) (hD := D.d_write_name) (B := B)
  have H_write_term : Has P w K mg base 25 "write_term" P_write_term ea_write_term (erW 1) (m_write_term 24) := h_write_term (k := 1) (hD := D.d_write_term) (B := B) (h_write_name := H_write_name.mono (by decide)) (n := 24)
  have H_write_terms : Has P w K mg base 26 "write_terms" P_write_terms ea_write_terms (erW 1) m_write_terms := h_write_terms (k := 25) (hD := D.d_write_terms) (B := B) (h_write_term := H_write_term.mono (by decide))
  have H_write_numbers : Has P w K mg base 1 "write_numbers" P_write_numbers ea_write_numbers (erW 1) m_write_numbers := h_write_numbers (k := 0) (hD := D.d_write_numbers) (B := B)
  have H_write_rules : Has P w K mg base 27 "write_rules" P_write_rules ea_write_rules (erW 1) m_write_rules := h_write_rules (k := 26) (hD := D.d_write_rules) (B := B) (h_write_name := H_write_name.mono (by decide)) (h_write_terms := H_write_terms.mono (by decide)) (h_write_term := H_write_term.mono (by decide))
  have H_write_claim : Has P w K mg base 27 "write_claim" P_write_claim ea_write_claim (erW 1) m_write_claim := h_write_claim (k := 26) (hD := D.d_write_claim) (B := B) (h_write_name := H_write_name.mono (by decide)) (h_write_terms := H_write_terms.mono (by decide)) (h_write_numbers := H_write_numbers.mono (by decide))
  have H_write_blocks : Has P w K mg base 28 "write_blocks" P_write_blocks ea_write_blocks (erW 1) m_write_blocks := h_write_blocks (k := 27) (hD := D.d_write_blocks) (B := B) (h_write_claim := H_write_claim.mono (by decide))
  have H_write_step : Has P w K mg base 27 "write_step" P_write_step ea_write_step (erW 1) m_write_step := h_write_step (k := 26) (hk := by decide) (hD := D.d_write_step) (B := B) (h_write_terms := H_write_terms.mono (by decide)) (h_write_name := H_write_name.mono (by decide)) (h_write_numbers := H_write_numbers.mono (by decide))
  have H_write_argument : Has P w K mg base 91 "write_argument" P_write_argument ea_write_argument (erW 1) (m_write_argument 64) := h_write_argument (k := 27) (hD := D.d_write_argument) (B := B) (h_write_step := H_write_step.mono (by decide)) (h_write_name := H_write_name.mono (by decide)) (n := 64)
  have H_write_entries : Has P w K mg base 92 "write_entries" P_write_entries ea_write_entries (erW 1) m_write_entries := h_write_entries (k := 91) (hD := D.d_write_entries) (B := B) (h_write_name := H_write_name.mono (by decide)) (h_write_argument := H_write_argument.mono (by decide))
  have H_numbers_of : Has P w K mg base 93 "numbers_of" P_numbers_of ea_numbers_of erD m_numbers_of := h_numbers_of (k := 92) (hD := D.d_numbers_of) (B := B) (h_write_name := H_write_name.mono (by decide)) (h_write_rules := H_write_rules.mono (by decide)) (h_write_blocks := H_write_blocks.mono (by decide)) (h_write_entries := H_write_entries.mono (by decide))
  have H_number_at : Has P w K mg base 1 "number_at" P_number_at ea_number_at erD m_number_at := h_number_at (k := 0) (hD := D.d_number_at) (B := B)
  have H_sign_at : Has P w K mg base 2 "sign_at" P_sign_at ea_sign_at erD m_sign_at := h_sign_at (k := 1) (hD := D.d_sign_at) (B := B) (h_number_at := H_number_at.mono (by decide))
  have H_read_name : Has P w K mg base 3 "read_name" P_read_name ea_read_name erD m_read_name := h_read_name (k := 2) (hD := D.d_read_name) (B := B) (h_number_at := H_number_at.mono (by decide)) (h_sign_at := H_sign_at.mono (by decide))
  have H_read_term : Has P w K mg base 55 "read_term" P_read_term ea_read_term erD (m_read_term 24) := h_read_term (k := 7) (by decide) D.d_read_term D.d_read_arguments B (H_number_at.mono (by decide)) (H_read_name.mono (by decide)) 24
  have H_read_arguments : Has P w K mg base 56 "read_arguments" P_read_arguments ea_read_arguments erD (m_read_arguments 24) := hg_read_arguments (k := 55) (hD := D.d_read_arguments) (B := B) (h_read_term := H_read_term)
  have H_read_atom : Has P w K mg base 57 "read_atom" P_read_atom ea_read_atom erD m_read_atom := h_read_atom (k := 56) (hk := by decide) (hD := D.d_read_atom) (B := B) (h_number_at := H_number_at.mono (by decide)) (h_read_arguments := H_read_arguments.mono (by decide)) (h_read_name := H_read_name.mono (by decide))
  have H_read_terms : Has P w K mg base 57 "read_terms" P_read_terms ea_read_terms erD m_read_terms := h_read_terms (k := 56) (hD := D.d_read_terms) (B := B) (h_number_at := H_number_at.mono (by decide)) (h_read_arguments := H_read_arguments.mono (by decide))
  have H_read_atoms : Has P w K mg base 58 "read_atoms" P_read_atoms ea_read_atoms erD m_read_atoms := h_read_atoms (k := 57) (hD := D.d_read_atoms) (B := B) (h_number_at := H_number_at.mono (by decide)) (h_read_atom := H_read_atom.mono (by decide))
  have H_read_numbers : Has P w K mg base 2 "read_numbers" P_read_numbers ea_read_numbers erD m_read_numbers := h_read_numbers (k := 1) (hD := D.d_read_numbers) (B := B) (h_number_at := H_number_at.mono (by decide))
  have H_read_rule : Has P w K mg base 59 "read_rule" P_read_rule ea_read_rule erD m_read_rule := h_read_rule (k := 58) (hD := D.d_read_rule) (B := B) (h_read_name := H_read_name.mono (by decide)) (h_read_atoms := H_read_atoms.mono (by decide)) (h_read_atom := H_read_atom.mono (by decide))
  have H_read_claim : Has P w K mg base 59 "read_claim" P_read_claim ea_read_claim erD m_read_claim := h_read_claim (k := 58) (hD := D.d_read_claim) (B := B) (h_read_name := H_read_name.mono (by decide)) (h_number_at := H_number_at.mono (by decide)) (h_read_atoms := H_read_atoms.mono (by decide)) (h_read_numbers := H_read_numbers.mono (by decide))
  have H_read_block : Has P w K mg base 60 "read_block" P_read_block ea_read_block erD m_read_block := h_read_block (k := 59) (hk := by decide) (hD := D.d_read_block) (B := B) (h_number_at := H_number_at.mono (by decide)) (h_read_claim := H_read_claim.mono (by decide))
  have H_read_step : Has P w K mg base 58 "read_step" P_read_step ea_read_step erD m_read_step := h_read_step (k := 57) (hk := by decide) (hD := D.d_read_step) (B := B) (h_number_at := H_number_at.mono (by decide)) (h_read_terms := H_read_terms.mono (by decide)) (h_read_name := H_read_name.mono (by decide)) (h_read_numbers := H_read_numbers.mono (by decide))
  have H_read_label : Has P w K mg base 8 "read_label" P_read_label ea_read_label erD m_read_label := h_read_label (k := 7) (hk := by decide) (hD := D.d_read_label) (B := B) (h_number_at := H_number_at.mono (by decide)) (h_read_name := H_read_name.mono (by decide))
  have H_read_argument : Has P w K mg base 122 "read_argument" P_read_argument ea_read_argument erD (m_read_argument 64) := h_read_argument (k := 58) (hk := by decide) (hD := D.d_read_argument) (B := B) (h_read_step := H_read_step.mono (by decide)) (h_number_at := H_number_at.mono (by decide)) (h_read_label := H_read_label.mono (by decide)) (n := 64)
  have H_read_entry : Has P w K mg base 123 "read_entry" P_read_entry ea_read_entry erD m_read_entry := h_read_entry (k := 122) (hk := by decide) (hD := D.d_read_entry) (B := B) (h_read_name := H_read_name.mono (by decide)) (h_number_at := H_number_at.mono (by decide)) (h_read_argument := H_read_argument.mono (by decide))
  have H_read_rows_read_name : Has P w K mg base 4 "read_rows" P_read_rows (ea_read_rows "read_name") erD (m_read_rows m_read_name) := h_read_rows (k := 3) (hD := D.d_read_rows) (B := B) (ea_read := ea_read_name) (hea_read := fun _ => rfl) (h_read := H_read_name.mono (by decide)) (h_number_at := H_number_at.mono (by decide))
  have H_read_rows_read_rule : Has P w K mg base 60 "read_rows" P_read_rows (ea_read_rows "read_rule") erD (m_read_rows m_read_rule) := h_read_rows (k := 59) (hD := D.d_read_rows) (B := B) (ea_read := ea_read_rule) (hea_read := fun _ => rfl) (h_read := H_read_rule.mono (by decide)) (h_number_at := H_number_at.mono (by decide))
  have H_read_rows_read_block : Has P w K mg base 61 "read_rows" P_read_rows (ea_read_rows "read_block") erD (m_read_rows m_read_block) := h_read_rows (k := 60) (hD := D.d_read_rows) (B := B) (ea_read := ea_read_block) (hea_read := fun _ => rfl) (h_read := H_read_block.mono (by decide)) (h_number_at := H_number_at.mono (by decide))
  have H_read_rows_read_entry : Has P w K mg base 124 "read_rows" P_read_rows (ea_read_rows "read_entry") erD (m_read_rows m_read_entry) := h_read_rows (k := 123) (hD := D.d_read_rows) (B := B) (ea_read := ea_read_entry) (hea_read := fun _ => rfl) (h_read := H_read_entry.mono (by decide)) (h_number_at := H_number_at.mono (by decide))
  have H_parts_of : Has P w K mg base 125 "parts_of" P_parts_of ea_parts_of erD m_parts_of := h_parts_of (k := 124) (hk := by decide) (hD := D.d_parts_of) (B := B) (h_number_at := H_number_at.mono (by decide)) (h_read_name := H_read_name.mono (by decide)) (h_read_rows_read_name := H_read_rows_read_name.mono (by decide)) (h_read_rows_read_rule := H_read_rows_read_rule.mono (by decide)) (h_read_rows_read_block := H_read_rows_read_block.mono (by decide)) (h_read_rows_read_entry := H_read_rows_read_entry.mono (by decide)) (h_read_rule := H_read_rule.mono (by decide)) (h_read_block := H_read_block.mono (by decide)) (h_read_entry := H_read_entry.mono (by decide))
  have H__law_draw : Has P w K mg base 8 "_law_draw" P__law_draw ea__law_draw (erDW 0) m__law_draw := h__law_draw (k := 7) (hk := by decide) (hD := D.d__law_draw) (B := B)
  have H__law_word : Has P w K mg base 9 "_law_word" P__law_word ea__law_word (erDW 0) m__law_word := h__law_word (k := 8) (hk := by decide) (hD := D.d__law_word) (B := B) (h__law_draw := H__law_draw.mono (by decide))
  have H__law_fresh : Has P w K mg base 10 "_law_fresh" P__law_fresh ea__law_fresh (erDWW 0 1) m__law_fresh := h__law_fresh (k := 9) (hk := by decide) (hD := D.d__law_fresh) (B := B) (h__law_word := H__law_word.mono (by decide)) (h__law_draw := H__law_draw.mono (by decide))
  have H__law_written_name : Has P w K mg base 1 "_law_written_name" P__law_written_name ea__law_written_name erD m__law_written_name := h__law_written_name (k := 0) (hD := D.d__law_written_name) (B := B)
  have H__law_joined_up : Has P w K mg base 1 "_law_joined_up" P__law_joined_up ea__law_joined_up erD m__law_joined_up := h__law_joined_up (k := 0) (hD := D.d__law_joined_up) (B := B)
  have H__law_written_term : Has P w K mg base 25 "_law_written_term" P__law_written_term ea__law_written_term erD (m__law_written_term 24) := h__law_written_term (k := 1) (hD := D.d__law_written_term) (B := B) (h__law_written_name := H__law_written_name.mono (by decide)) (h__law_joined_up := H__law_joined_up.mono (by decide)) (n := 24)
  have H__law_written_list : Has P w K mg base 2 "_law_written_list" P__law_written_list ea__law_written_list erD m__law_written_list := h__law_written_list (k := 1) (hD := D.d__law_written_list) (B := B) (h__law_joined_up := H__law_joined_up.mono (by decide))
  have H__law_written_terms : Has P w K mg base 26 "_law_written_terms" P__law_written_terms ea__law_written_terms erD m__law_written_terms := h__law_written_terms (k := 25) (hD := D.d__law_written_terms) (B := B) (h__law_written_list := H__law_written_list.mono (by decide)) (h__law_written_term := H__law_written_term.mono (by decide))
  have H__law_written_claim : Has P w K mg base 27 "_law_written_claim" P__law_written_claim ea__law_written_claim erD m__law_written_claim := h__law_written_claim (k := 26) (hD := D.d__law_written_claim) (B := B) (h__law_written_terms := H__law_written_terms.mono (by decide)) (h__law_written_name := H__law_written_name.mono (by decide)) (h__law_written_list := H__law_written_list.mono (by decide))
  have H__law_written_argument : Has P w K mg base 90 "_law_written_argument" P__law_written_argument ea__law_written_argument erD (m__law_written_argument 64) := h__law_written_argument (k := 26) (hk := by decide) (hD := D.d__law_written_argument) (B := B) (h__law_written_terms := H__law_written_terms.mono (by decide)) (h__law_written_name := H__law_written_name.mono (by decide)) (h__law_written_list := H__law_written_list.mono (by decide)) (n := 64)
  have H__law_written : Has P w K mg base 91 "_law_written" P__law_written ea__law_written erD m__law_written := h__law_written (k := 90) (hD := D.d__law_written) (B := B) (h__law_written_name := H__law_written_name.mono (by decide)) (h__law_written_list := H__law_written_list.mono (by decide)) (h__law_written_terms := H__law_written_terms.mono (by decide)) (h__law_written_term := H__law_written_term.mono (by decide)) (h__law_written_claim := H__law_written_claim.mono (by decide)) (h__law_written_argument := H__law_written_argument.mono (by decide))
  have H__law_any_term : Has P w K mg base 16 "_law_any_term" P__law_any_term ea__law_any_term (erDW 0) (m__law_any_term 8) := h__law_any_term (k := 8) (hD := D.d__law_any_term) (B := B) (h__law_draw := H__law_draw.mono (by decide)) (n := 8)
  have H__law_any_atom : Has P w K mg base 17 "_law_any_atom" P__law_any_atom ea__law_any_atom (erDW 0) m__law_any_atom := h__law_any_atom (k := 16) (hk := by decide) (hD := D.d__law_any_atom) (B := B) (h__law_draw := H__law_draw.mono (by decide)) (h__law_any_term := H__law_any_term.mono (by decide))
  have H__law_any_argument : Has P w K mg base 24 "_law_any_argument" P__law_any_argument ea__law_any_argument (erDW 0) (m__law_any_argument 8) := h__law_any_argument (k := 16) (hD := D.d__law_any_argument) (B := B) (h__law_draw := H__law_draw.mono (by decide)) (h__law_any_term := H__law_any_term.mono (by decide)) (n := 8)
  have H__law_any_parts : Has P w K mg base 25 "_law_any_parts" P__law_any_parts ea__law_any_parts (erDW 0) m__law_any_parts := h__law_any_parts (k := 24) (hk := by decide) (hD := D.d__law_any_parts) (B := B) (h__law_draw := H__law_draw.mono (by decide)) (h__law_fresh := H__law_fresh.mono (by decide)) (h__law_any_atom := H__law_any_atom.mono (by decide)) (h__law_any_argument := H__law_any_argument.mono (by decide))
  have H__law_deep : Has P w K mg base 1 "_law_deep" P__law_deep ea__law_deep erD m__law_deep := h__law_deep (k := 0) (hD := D.d__law_deep) (B := B)
  have H__law_tape : Has P w K mg base 1 "_law_tape" P__law_tape ea__law_tape erO m__law_tape := h__law_tape (k := 0) (hD := D.d__law_tape) (B := B)
  have H__law_alike : Has P w K mg base 8 "_law_alike" P__law_alike ea__law_alike erB m__law_alike := h__law_alike (k := 7) (hk := by decide) (hD := D.d__law_alike) (B := B)
  have H_law : Has P w K mg base 126 "law" P_law ea_law erB m_law := h_law (k := 125) (hk := by decide) (hD := D.d_law) (B := B) (h__law_tape := H__law_tape.mono (by decide)) (h__law_any_parts := H__law_any_parts.mono (by decide)) (h__law_draw := H__law_draw.mono (by decide)) (h__law_deep := H__law_deep.mono (by decide)) (h__law_written := H__law_written.mono (by decide)) (h__law_alike := H__law_alike.mono (by decide)) (h_numbers_of := H_numbers_of.mono (by decide)) (h_parts_of := H_parts_of.mono (by decide))
  exact H_law
end
end MX

set_option Elab.async false
set_option linter.all false
open PySem PySem.W PyProof.Rows
set_option maxRecDepth 100000 in
set_option maxHeartbeats 0 in
theorem PySem.Challenge.cw_openrules_k97_written_and_read_holds : PySem.Challenge.rw_openrules_k97_written_and_read.Holds := by
  w_on; o_law; k_head; (case hw => w_witness2)
  k_fill
  refine MX.law_walk (l := PySem.Challenge.rw_openrules_k97_written_and_read) (k := 126) (x := "_law_script") (mf := MX.m_law) rfl (by decide +kernel) rfl rfl ⟨rfl, by decide, by decide⟩ (fun w h Y => PySem.W.kIn_of Y) (fun ns _ => MX.law_true ns) ?has
  case has =>
    intro w mg h KX G base Kb Gb
    refine' MX.all_defs ⟨?d_write_name, ?d_write_term, ?d_write_terms, ?d_write_numbers, ?d_write_rules, ?d_write_claim, ?d_write_blocks, ?d_write_step, ?d_write_argument, ?d_write_entries, ?d_numbers_of, ?d_number_at, ?d_sign_at, ?d_read_name, ?d_read_arguments, ?d_read_term, ?d_read_atom, ?d_read_terms, ?d_read_atoms, ?d_read_numbers, ?d_read_rule, ?d_read_claim, ?d_read_block, ?d_read_step, ?d_read_label, ?d_read_argument, ?d_read_entry, ?d_read_rows, ?d_parts_of, ?d__law_draw, ?d__law_word, ?d__law_fresh, ?d__law_written_name, ?d__law_joined_up, ?d__law_written_term, ?d__law_written_list, ?d__law_written_terms, ?d__law_written_claim, ?d__law_written_argument, ?d__law_written, ?d__law_any_term, ?d__law_any_atom, ?d__law_any_argument, ?d__law_any_parts, ?d__law_deep, ?d__law_tape, ?d__law_alike, ?d_law⟩ ⟨?b_len, ?b_ord, ?b_abs, ?b_max, ?b_repr, ?b_int, ?b_tuple, ?b_list, ?b_str, ?b_range, ?b_isinstance, ?c_MAGIC, ?c_SMALL, ?c_GREAT, ?c_DIGITS, ?c_STEP_WORDS, ?c_MOST_SIGNS, ?c_MOST_PLACES, ?c_MOST_TERM_DEPTH, ?c_MOST_ARGUMENT_DEPTH, ?c_MOST, ?c_STEP_KINDS⟩
    case d_write_name =>
      refine' MX.DefAt.of KX G ?a ?l ?c ?k (fun _ _ _ _ _ _ us hl => match us, hl with | [_, _], _ => rfl)
      (case a => k_is); (case l => k_is); (case c => k_is); (case k => k_is)
    case d_write_term =>
      refine' MX.DefAt.of KX G ?a ?l ?c ?k (fun _ _ _ _ _ _ us hl => match us, hl with | [_, _], _ => rfl)
      (case a => k_is); (case l => k_is); (case c => k_is); (case k => k_is)
    case d_write_terms =>
      refine' MX.DefAt.of KX G ?a ?l ?c ?k (fun _ _ _ _ _ _ us hl => match us, hl with | [_, _], _ => rfl)
      (case a => k_is); (case l => k_is); (case c => k_is); (case k => k_is)
    case d_write_numbers =>
      refine' MX.DefAt.of KX G ?a ?l ?c ?k (fun _ _ _ _ _ _ us hl => match us, hl with | [_, _], _ => rfl)
      (case a => k_is); (case l => k_is); (case c => k_is); (case k => k_is)
    case d_write_rules =>
      refine' MX.DefAt.of KX G ?a ?l ?c ?k (fun _ _ _ _ _ _ us hl => match us, hl with | [_, _], _ => rfl)
      (case a => k_is); (case l => k_is); (case c => k_is); (case k => k_is)
    case d_write_claim =>
      refine' MX.DefAt.of KX G ?a ?l ?c ?k (fun _ _ _ _ _ _ us hl => match us, hl with | [_, _], _ => rfl)
      (case a => k_is); (case l => k_is); (case c => k_is); (case k => k_is)
    case d_write_blocks =>
      refine' MX.DefAt.of KX G ?a ?l ?c ?k (fun _ _ _ _ _ _ us hl => match us, hl with | [_, _], _ => rfl)
      (case a => k_is); (case l => k_is); (case c => k_is); (case k => k_is)
    case d_write_step =>
      refine' MX.DefAt.of KX G ?a ?l ?c ?k (fun _ _ _ _ _ _ us hl => match us, hl with | [_, _], _ => rfl)
      (case a => k_is); (case l => k_is); (case c => k_is); (case k => k_is)
    case d_write_argument =>
      refine' MX.DefAt.of KX G ?a ?l ?c ?k (fun _ _ _ _ _ _ us hl => match us, hl with | [_, _], _ => rfl)
      (case a => k_is); (case l => k_is); (case c => k_is); (case k => k_is)
    case d_write_entries =>
      refine' MX.DefAt.of KX G ?a ?l ?c ?k (fun _ _ _ _ _ _ us hl => match us, hl with | [_, _], _ => rfl)
      (case a => k_is); (case l => k_is); (case c => k_is); (case k => k_is)
    case d_numbers_of =>
      refine' MX.DefAt.of KX G ?a ?l ?c ?k (fun _ _ _ _ _ _ us hl => match us, hl with | [_], _ => rfl)
      (case a => k_is); (case l => k_is); (case c => k_is); (case k => k_is)
    case d_number_at =>
      refine' MX.DefAt.of KX G ?a ?l ?c ?k (fun _ _ _ _ _ _ us hl => match us, hl with | [_, _, _, _], _ => rfl)
      (case a => k_is); (case l => k_is); (case c => k_is); (case k => k_is)
    case d_sign_at =>
      refine' MX.DefAt.of KX G ?a ?l ?c ?k (fun _ _ _ _ _ _ us hl => match us, hl with | [_, _], _ => rfl)
      (case a => k_is); (case l => k_is); (case c => k_is); (case k => k_is)
    case d_read_name =>
      refine' MX.DefAt.of KX G ?a ?l ?c ?k (fun _ _ _ _ _ _ us hl => match us, hl with | [_, _], _ => rfl)
      (case a => k_is); (case l => k_is); (case c => k_is); (case k => k_is)
    case d_read_arguments =>
      refine' MX.DefAt.of KX G ?a ?l ?c ?k (fun _ _ _ _ _ _ us hl => match us, hl with | [_, _, _, _, _], _ => rfl)
      (case a => k_is); (case l => k_is); (case c => k_is); (case k => k_is)
    case d_read_term =>
      refine' MX.DefAt.of KX G ?a ?l ?c ?k (fun _ _ _ _ _ _ us hl => match us, hl with | [_, _, _], _ => rfl)
      (case a => k_is); (case l => k_is); (case c => k_is); (case k => k_is)
    case d_read_atom =>
      refine' MX.DefAt.of KX G ?a ?l ?c ?k (fun _ _ _ _ _ _ us hl => match us, hl with | [_, _], _ => rfl)
      (case a => k_is); (case l => k_is); (case c => k_is); (case k => k_is)
    case d_read_terms =>
      refine' MX.DefAt.of KX G ?a ?l ?c ?k (fun _ _ _ _ _ _ us hl => match us, hl with | [_, _], _ => rfl)
      (case a => k_is); (case l => k_is); (case c => k_is); (case k => k_is)
    case d_read_atoms =>
      refine' MX.DefAt.of KX G ?a ?l ?c ?k (fun _ _ _ _ _ _ us hl => match us, hl with | [_, _], _ => rfl)
      (case a => k_is); (case l => k_is); (case c => k_is); (case k => k_is)
    case d_read_numbers =>
      refine' MX.DefAt.of KX G ?a ?l ?c ?k (fun _ _ _ _ _ _ us hl => match us, hl with | [_, _], _ => rfl)
      (case a => k_is); (case l => k_is); (case c => k_is); (case k => k_is)
    case d_read_rule =>
      refine' MX.DefAt.of KX G ?a ?l ?c ?k (fun _ _ _ _ _ _ us hl => match us, hl with | [_, _], _ => rfl)
      (case a => k_is); (case l => k_is); (case c => k_is); (case k => k_is)
    case d_read_claim =>
      refine' MX.DefAt.of KX G ?a ?l ?c ?k (fun _ _ _ _ _ _ us hl => match us, hl with | [_, _], _ => rfl)
      (case a => k_is); (case l => k_is); (case c => k_is); (case k => k_is)
    case d_read_block =>
      refine' MX.DefAt.of KX G ?a ?l ?c ?k (fun _ _ _ _ _ _ us hl => match us, hl with | [_, _], _ => rfl)
      (case a => k_is); (case l => k_is); (case c => k_is); (case k => k_is)
    case d_read_step =>
      refine' MX.DefAt.of KX G ?a ?l ?c ?k (fun _ _ _ _ _ _ us hl => match us, hl with | [_, _], _ => rfl)
      (case a => k_is); (case l => k_is); (case c => k_is); (case k => k_is)
    case d_read_label =>
      refine' MX.DefAt.of KX G ?a ?l ?c ?k (fun _ _ _ _ _ _ us hl => match us, hl with | [_, _], _ => rfl)
      (case a => k_is); (case l => k_is); (case c => k_is); (case k => k_is)
    case d_read_argument =>
      refine' MX.DefAt.of KX G ?a ?l ?c ?k (fun _ _ _ _ _ _ us hl => match us, hl with | [_, _, _], _ => rfl)
      (case a => k_is); (case l => k_is); (case c => k_is); (case k => k_is)
    case d_read_entry =>
      refine' MX.DefAt.of KX G ?a ?l ?c ?k (fun _ _ _ _ _ _ us hl => match us, hl with | [_, _], _ => rfl)
      (case a => k_is); (case l => k_is); (case c => k_is); (case k => k_is)
    case d_read_rows =>
      refine' MX.DefAt.of KX G ?a ?l ?c ?k (fun _ _ _ _ _ _ us hl => match us, hl with | [_, _, _], _ => rfl)
      (case a => k_is); (case l => k_is); (case c => k_is); (case k => k_is)
    case d_parts_of =>
      refine' MX.DefAt.of KX G ?a ?l ?c ?k (fun _ _ _ _ _ _ us hl => match us, hl with | [_], _ => rfl)
      (case a => k_is); (case l => k_is); (case c => k_is); (case k => k_is)
    case d__law_draw =>
      refine' MX.DefAt.of KX G ?a ?l ?c ?k (fun _ _ _ _ _ _ us hl => match us, hl with | [_, _], _ => rfl)
      (case a => k_is); (case l => k_is); (case c => k_is); (case k => k_is)
    case d__law_word =>
      refine' MX.DefAt.of KX G ?a ?l ?c ?k (fun _ _ _ _ _ _ us hl => match us, hl with | [_, _], _ => rfl)
      (case a => k_is); (case l => k_is); (case c => k_is); (case k => k_is)
    case d__law_fresh =>
      refine' MX.DefAt.of KX G ?a ?l ?c ?k (fun _ _ _ _ _ _ us hl => match us, hl with | [_, _], _ => rfl)
      (case a => k_is); (case l => k_is); (case c => k_is); (case k => k_is)
    case d__law_written_name =>
      refine' MX.DefAt.of KX G ?a ?l ?c ?k (fun _ _ _ _ _ _ us hl => match us, hl with | [_], _ => rfl)
      (case a => k_is); (case l => k_is); (case c => k_is); (case k => k_is)
    case d__law_joined_up =>
      refine' MX.DefAt.of KX G ?a ?l ?c ?k (fun _ _ _ _ _ _ us hl => match us, hl with | [_], _ => rfl)
      (case a => k_is); (case l => k_is); (case c => k_is); (case k => k_is)
    case d__law_written_term =>
      refine' MX.DefAt.of KX G ?a ?l ?c ?k (fun _ _ _ _ _ _ us hl => match us, hl with | [_], _ => rfl)
      (case a => k_is); (case l => k_is); (case c => k_is); (case k => k_is)
    case d__law_written_list =>
      refine' MX.DefAt.of KX G ?a ?l ?c ?k (fun _ _ _ _ _ _ us hl => match us, hl with | [_], _ => rfl)
      (case a => k_is); (case l => k_is); (case c => k_is); (case k => k_is)
    case d__law_written_terms =>
      refine' MX.DefAt.of KX G ?a ?l ?c ?k (fun _ _ _ _ _ _ us hl => match us, hl with | [_], _ => rfl)
      (case a => k_is); (case l => k_is); (case c => k_is); (case k => k_is)
    case d__law_written_claim =>
      refine' MX.DefAt.of KX G ?a ?l ?c ?k (fun _ _ _ _ _ _ us hl => match us, hl with | [_], _ => rfl)
      (case a => k_is); (case l => k_is); (case c => k_is); (case k => k_is)
    case d__law_written_argument =>
      refine' MX.DefAt.of KX G ?a ?l ?c ?k (fun _ _ _ _ _ _ us hl => match us, hl with | [_], _ => rfl)
      (case a => k_is); (case l => k_is); (case c => k_is); (case k => k_is)
    case d__law_written =>
      refine' MX.DefAt.of KX G ?a ?l ?c ?k (fun _ _ _ _ _ _ us hl => match us, hl with | [_], _ => rfl)
      (case a => k_is); (case l => k_is); (case c => k_is); (case k => k_is)
    case d__law_any_term =>
      refine' MX.DefAt.of KX G ?a ?l ?c ?k (fun _ _ _ _ _ _ us hl => match us, hl with | [_, _, _], _ => rfl)
      (case a => k_is); (case l => k_is); (case c => k_is); (case k => k_is)
    case d__law_any_atom =>
      refine' MX.DefAt.of KX G ?a ?l ?c ?k (fun _ _ _ _ _ _ us hl => match us, hl with | [_, _, _], _ => rfl)
      (case a => k_is); (case l => k_is); (case c => k_is); (case k => k_is)
    case d__law_any_argument =>
      refine' MX.DefAt.of KX G ?a ?l ?c ?k (fun _ _ _ _ _ _ us hl => match us, hl with | [_, _, _], _ => rfl)
      (case a => k_is); (case l => k_is); (case c => k_is); (case k => k_is)
    case d__law_any_parts =>
      refine' MX.DefAt.of KX G ?a ?l ?c ?k (fun _ _ _ _ _ _ us hl => match us, hl with | [_], _ => rfl)
      (case a => k_is); (case l => k_is); (case c => k_is); (case k => k_is)
    case d__law_deep =>
      refine' MX.DefAt.of KX G ?a ?l ?c ?k (fun _ _ _ _ _ _ us hl => match us, hl with | [_, _], _ => rfl)
      (case a => k_is); (case l => k_is); (case c => k_is); (case k => k_is)
    case d__law_tape =>
      refine' MX.DefAt.of KX G ?a ?l ?c ?k (fun _ _ _ _ _ _ us hl => match us, hl with | [_], _ => rfl)
      (case a => k_is); (case l => k_is); (case c => k_is); (case k => k_is)
    case d__law_alike =>
      refine' MX.DefAt.of KX G ?a ?l ?c ?k (fun _ _ _ _ _ _ us hl => match us, hl with | [_, _], _ => rfl)
      (case a => k_is); (case l => k_is); (case c => k_is); (case k => k_is)
    case d_law =>
      refine' MX.DefAt.of KX G ?a ?l ?c ?k (fun _ _ _ _ _ _ us hl => match us, hl with | [_], _ => rfl)
      (case a => k_is); (case l => k_is); (case c => k_is); (case k => k_is)
    case b_len =>
      refine' PySem.W.mg_none_of KX G ?a
      (case a => k_is)
    case b_ord =>
      refine' PySem.W.mg_none_of KX G ?a
      (case a => k_is)
    case b_abs =>
      refine' PySem.W.mg_none_of KX G ?a
      (case a => k_is)
    case b_max =>
      refine' PySem.W.mg_none_of KX G ?a
      (case a => k_is)
    case b_repr =>
      refine' PySem.W.mg_none_of KX G ?a
      (case a => k_is)
    case b_int =>
      refine' PySem.W.mg_none_of KX G ?a
      (case a => k_is)
    case b_tuple =>
      refine' PySem.W.mg_none_of KX G ?a
      (case a => k_is)
    case b_list =>
      refine' PySem.W.mg_none_of KX G ?a
      (case a => k_is)
    case b_str =>
      refine' PySem.W.mg_none_of KX G ?a
      (case a => k_is)
    case b_range =>
      refine' PySem.W.mg_none_of KX G ?a
      (case a => k_is)
    case b_isinstance =>
      refine' PySem.W.mg_none_of KX G ?a
      (case a => k_is)
    case c_MOST_SIGNS =>
      refine' MX.cst_val KX G ?a ?v
      (case a => k_is); (case v => rfl)
    case c_MOST_PLACES =>
      refine' MX.cst_val KX G ?a ?v
      (case a => k_is); (case v => rfl)
    case c_MOST_TERM_DEPTH =>
      refine' MX.cst_val KX G ?a ?v
      (case a => k_is); (case v => rfl)
    case c_MOST_ARGUMENT_DEPTH =>
      refine' MX.cst_val KX G ?a ?v
      (case a => k_is); (case v => rfl)
    case c_MOST =>
      refine' MX.cst_val KX G ?a ?v
      (case a => k_is); (case v => rfl)
    case c_SMALL =>
      refine' MX.cst_val KX G ?a ?v
      (case a => k_is); (case v => rfl)
    case c_GREAT =>
      refine' MX.cst_val KX G ?a ?v
      (case a => k_is); (case v => rfl)
    case c_DIGITS =>
      refine' MX.cst_val KX G ?a ?v
      (case a => k_is); (case v => rfl)
    case c_MAGIC =>
      refine' MX.cst_tup KX G ?a ?l ?s ?r
      (case a => k_is); (case l => k_is)
      (case s => exact Nat.le_of_ble_eq_true rfl)
      (case r => rfl)
    case c_STEP_WORDS =>
      refine' MX.cst_tup KX G ?a ?l ?s ?r
      (case a => k_is); (case l => k_is)
      (case s => exact Nat.le_of_ble_eq_true rfl)
      (case r => rfl)
    case c_STEP_KINDS =>
      refine' MX.cst_dict KX G ?a ?l ?k ?r
      (case a => k_is); (case l => k_is)
      (case k => exact ⟨⟨_, _, rfl, rfl⟩, ⟨_, _, rfl, rfl⟩, ⟨_, _, rfl, rfl⟩, ⟨_, _, rfl, rfl⟩, trivial⟩)
      (case r => rfl)
#print axioms PySem.Challenge.cw_openrules_k97_written_and_read_holds
