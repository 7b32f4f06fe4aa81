import PyProof.Rows.All
import Wide.All
import OpenK.AllK
import Wide.FinOn
import HandS.ForMost
import HandS.ForExc
import HandS.Conv
import HandS.DictComp
import HandS.Zip
import HandS.TupAny
import HandS.Deep
import HandS.Style
import HandS.Flow
import KE.KEqNest
import HandS.IsInst
import HandS.RaiseMore
import HandS.Iter
import HandS.Comp
import PyProof.CompUse
import HandS.SetFor
import HandS.Small
import HandS.More
import HandS.WordsExc
import HandS.TryMany
import KE.SortData
import PyProof.TupleOfSeq
import PySem.Challenge.RW_shelvesfilled_k46_whole_transfers_betwee
set_option Elab.async false
set_option linter.all false
set_option autoImplicit false
set_option maxRecDepth 100000
/-! A value-semantics layer over the hand layer: data, environments, results, and what it means that a heap holds them. -/
namespace PK
open PySem PySem.Spec PyProof.Rows L2

abbrev D := PyData
abbrev St := L2.St
/-- a slot: owned (only this slot knows the object) or not, and what it holds -/
abbrev Ce := Option (Bool × D)
abbrev En := List Ce

inductive Exc where
  | np | tl | te (p w : D)

inductive Res (α : Type) where
  | ok (a : α) (ρ : En)
  | err (x : Exc) (ρ : En)
  | stuck
abbrev M (α : Type) := En → Res α
@[simp] def bnd {α β : Type} (m : M α) (k : α → M β) : M β := fun ρ => match m ρ with
  | .ok a ρ' => k a ρ'
  | .err x ρ' => .err x ρ'
  | .stuck => .stuck

/-- a text that may stand: its signs are signs, it is not too long -/
def okS (x : Str) : Bool := PyData.strOk x && decide (x.cps.size ≤ 16777216)
/-! ### what the abstract heap holds -/
def keyD : Key → D
  | .inl i => .int i
  | .inr x => .str x
/-- the script (a list that is known to its object, never written) -/
def scrD (ns : List Int) : D := .dict [(.none, .list (ns.map .int))]
mutual
inductive Enc (K : PySem.W.Frag) (F : Hp) : V → D → Prop
  | non : Enc K F .non .none
  | bl (b : Bool) : Enc K F (.bl b) (.bool b)
  | int (i : Int) : Enc K F (.int i) (.int i)
  | str (x : Str) : okS x = true → Enc K F (.str x) (.str x)
  | lst {a : Addr} {vs : List V} {ds : List D} : F a = some (.lst vs) → EncL K F vs ds → Enc K F (.ref a) (.list ds)
  | tup {a : Addr} {vs : List V} {ds : List D} : SqT K F a vs → EncL K F vs ds → Enc K F (.ref a) (.tuple ds)
  | dic {a : Addr} {kvs : List (Key × V)} {ds : List (D × D)} : Rd F a (.dK kvs) → EncK K F kvs ds → Enc K F (.ref a) (.dict ds)
  | scr {a : Addr} {ns : List Int} : SqL K F a (ns.map V.int) → Enc K F (.ref a) (.dict [(.none, .list (ns.map .int))])
inductive EncL (K : PySem.W.Frag) (F : Hp) : List V → List D → Prop
  | nil : EncL K F [] []
  | cons {v : V} {vs : List V} {d : D} {ds : List D} : Enc K F v d → EncL K F vs ds → EncL K F (v :: vs) (d :: ds)
inductive EncK (K : PySem.W.Frag) (F : Hp) : List (Key × V) → List (D × D) → Prop
  | nil : EncK K F [] []
  | cons {k : Key} {v : V} {kvs : List (Key × V)} {d : D} {ds : List (D × D)} : Enc K F (kV k) (keyD k) → Enc K F v d → EncK K F kvs ds → EncK K F ((k, v) :: kvs) ((keyD k, d) :: ds)
end
abbrev Ext (F F' : Hp) : Prop := ∀ a o, F a = some o → F' a = some o
theorem Ext.refl (F : Hp) : Ext F F := fun _ _ h => h
theorem Ext.trans {F F1 F2 : Hp} (a : Ext F F1) (b : Ext F1 F2) : Ext F F2 := fun c o h => b c o (a c o h)
section
variable {K : PySem.W.Frag} {F F' H : Hp}
theorem Rd.ext (e : Ext F F') {a : Addr} {u : HO} (h : Rd F a u) : Rd F' a u := h.elim (fun q => .inl (e _ _ q)) fun ⟨o, q⟩ => .inr ⟨o, e _ _ q⟩
theorem SqL.ext (e : Ext F F') {a : Addr} {xs : List V} (h : SqL K F a xs) : SqL K F' a xs := h.elim (fun q => .inl (Rd.ext e q)) .inr
theorem SqT.ext (e : Ext F F') {a : Addr} {xs : List V} (h : SqT K F a xs) : SqT K F' a xs := h.elim (fun q => .inl (Rd.ext e q)) .inr
mutual
theorem Enc.ext (e : Ext F F') : ∀ {v : V} {d : D}, Enc K F v d → Enc K F' v d
  | _, _, .non => .non
  | _, _, .bl b => .bl b
  | _, _, .int i => .int i
  | _, _, .str x h => .str x h
  | _, _, .lst h t => .lst (e _ _ h) (EncL.ext e t)
  | _, _, .tup h t => .tup (SqT.ext e h) (EncL.ext e t)
  | _, _, .dic h t => .dic (Rd.ext e h) (EncK.ext e t)
  | _, _, .scr h => .scr (SqL.ext e h)
theorem EncL.ext (e : Ext F F') : ∀ {vs : List V} {ds : List D}, EncL K F vs ds → EncL K F' vs ds
  | _, _, .nil => .nil
  | _, _, .cons h t => .cons (Enc.ext e h) (EncL.ext e t)
theorem EncK.ext (e : Ext F F') : ∀ {vs : List (Key × V)} {ds : List (D × D)}, EncK K F vs ds → EncK K F' vs ds
  | _, _, .nil => .nil
  | _, _, .cons k h t => .cons (Enc.ext e k) (Enc.ext e h) (EncK.ext e t)
end
theorem EncL.length : ∀ {vs : List V} {ds : List D}, EncL K F vs ds → vs.length = ds.length
  | _, _, .nil => rfl
  | _, _, .cons _ t => by rw [List.length_cons, List.length_cons, EncL.length t]
theorem EncK.length : ∀ {vs : List (Key × V)} {ds : List (D × D)}, EncK K F vs ds → vs.length = ds.length
  | _, _, .nil => rfl
  | _, _, .cons _ _ t => by rw [List.length_cons, List.length_cons, EncK.length t]
theorem EncL.append : ∀ {vs ws : List V} {ds es : List D}, EncL K F vs ds → EncL K F ws es → EncL K F (vs ++ ws) (ds ++ es)
  | _, _, _, _, .nil, h => h
  | _, _, _, _, .cons a t, h => .cons a (EncL.append t h)
theorem EncL.get : ∀ {vs : List V} {ds : List D} {i : Nat} {d : D}, EncL K F vs ds → ds[i]? = some d → ∃ v, vs[i]? = some v ∧ Enc K F v d
  | _, _, _, _, .nil, e => by simp at e
  | _, _, 0, _, .cons h _, e => by simp at e; subst e; exact ⟨_, rfl, h⟩
  | _, _, i + 1, d, .cons _ t, e => by
    obtain ⟨v, h1, h2⟩ := EncL.get (i := i) (d := d) t (by simpa using e)
    exact ⟨v, by simpa using h1, h2⟩
theorem EncL.getV : ∀ {vs : List V} {ds : List D} {i : Nat} {v : V}, EncL K F vs ds → vs[i]? = some v → ∃ d, ds[i]? = some d ∧ Enc K F v d
  | _, _, _, _, .nil, e => by simp at e
  | _, _, 0, _, .cons h _, e => by simp at e; subst e; exact ⟨_, rfl, h⟩
  | _, _, i + 1, v, .cons _ t, e => by
    obtain ⟨d, h1, h2⟩ := EncL.getV (i := i) (v := v) t (by simpa using e)
    exact ⟨d, by simpa using h1, h2⟩
theorem EncL.take : ∀ {vs : List V} {ds : List D} (n : Nat), EncL K F vs ds → EncL K F (vs.take n) (ds.take n)
  | _, _, 0, _ => .nil
  | _, _, _ + 1, .nil => .nil
  | _, _, n + 1, .cons h t => .cons h (EncL.take n t)
theorem EncL.drop : ∀ {vs : List V} {ds : List D} (n : Nat), EncL K F vs ds → EncL K F (vs.drop n) (ds.drop n)
  | _, _, 0, h => h
  | _, _, _ + 1, .nil => .nil
  | _, _, n + 1, .cons _ t => EncL.drop n t
theorem EncL.set {x : V} {d : D} (r : Enc K F x d) : ∀ {vs : List V} {ds : List D} (i : Nat), EncL K F vs ds → EncL K F (vs.set i x) (ds.set i d)
  | _, _, _, .nil => .nil
  | _, _, 0, .cons _ t => .cons r t
  | _, _, i + 1, .cons q t => .cons q (EncL.set r i t)
theorem EncL.reverse {vs : List V} {ds : List D} (h : EncL K F vs ds) : EncL K F vs.reverse ds.reverse := by
  induction ds generalizing vs with
  | nil => cases h; exact .nil
  | cons d ds ih =>
    cases h with
    | cons h t =>
      rw [List.reverse_cons, List.reverse_cons]
      exact (ih t).append (.cons h .nil)
theorem EncL.map {α : Type} (f : α → V) (g : α → D) (h : ∀ x, Enc K F (f x) (g x)) : ∀ xs : List α, EncL K F (xs.map f) (xs.map g)
  | [] => .nil
  | x :: xs => .cons (h x) (EncL.map f g h xs)
end

/-! ### environments over the abstract heap -/
section
variable (K : PySem.W.Frag)
/-- an object that a slot owns: what is within stands in F -/
inductive Top (F : Hp) : HO → D → Prop
  | lst {vs : List V} {ds : List D} : EncL K F vs ds → Top F (.lst vs) (.list ds)
  | dic {kvs : List (Key × V)} {ds : List (D × D)} : EncK K F kvs ds → Top F (.dK kvs) (.dict ds)
inductive CellOk (F H : Hp) : V → Bool × D → Prop
  | shr {v : V} {d : D} : Enc K F v d → CellOk F H v (false, d)
  | own {a : Addr} {o : HO} {d : D} : F a = none → H a = some o → Top K F o d → CellOk F H (.ref a) (true, d)
end
def Own (σ : St) (ρ : En) (a : Addr) : Prop := ∃ (i : Nat) (d : D), ρ[i]? = some (some (true, d)) ∧ σ[i]? = some (some (.ref a))
structure Rel (K : PySem.W.Frag) (F : Hp) (σ : St) (H : Hp) (ρ : En) : Prop where
  sub : Ext F H
  len : σ.length = ρ.length
  cell : ∀ (i : Nat) (c : Bool × D), ρ[i]? = some (some c) → ∃ v, σ[i]? = some (some v) ∧ CellOk K F H v c
  sep : ∀ (i j : Nat) (a : Addr) (d e : D), ρ[i]? = some (some (true, d)) → ρ[j]? = some (some (true, e)) → σ[i]? = some (some (.ref a)) → σ[j]? = some (some (.ref a)) → i = j
/-- from one state to a later one -/
structure Go (K : PySem.W.Frag) (pr : Nat → Bool) (F : Hp) (σ : St) (H : Hp) (ρ : En) (F' : Hp) (σ' : St) (H' : Hp) (ρ' : En) : Prop where
  rel : Rel K F' σ' H' ρ'
  ext : Ext F F'
  new : ∀ a, F a = none → F' a ≠ none → H a = none ∨ Own σ ρ a
  keep : ∀ a o, H a = some o → ¬ Own σ ρ a → H' a = some o
  dom : ∀ a, H' a = none → H a = none
  own : ∀ a, Own σ' ρ' a → Own σ ρ a ∨ H a = none
  prot : ∀ i, pr i = true → σ'[i]? = σ[i]?
/-- .. within an expression: the slots stand -/
structure GoE (K : PySem.W.Frag) (F : Hp) (σ : St) (H : Hp) (ρ : En) (F' : Hp) (H' : Hp) (ρ' : En) : Prop where
  rel : Rel K F' σ H' ρ'
  ext : Ext F F'
  new : ∀ a, F a = none → F' a ≠ none → H a = none ∨ Own σ ρ a
  keep : ∀ a o, H a = some o → ¬ Own σ ρ a → H' a = some o
  dom : ∀ a, H' a = none → H a = none
  own : ∀ (i : Nat) (d : D), ρ'[i]? = some (some (true, d)) → ∃ e, ρ[i]? = some (some (true, e))
  dead : ∀ (i : Nat), ρ[i]? = some none → ρ'[i]? = some none
section
variable {K : PySem.W.Frag} {pr : Nat → Bool} {F F1 F2 : Hp} {σ σ1 σ2 : St} {H H1 H2 : Hp} {ρ ρ1 ρ2 : En}
theorem Rel.ownIn (r : Rel K F σ H ρ) {a : Addr} (h : Own σ ρ a) : F a = none ∧ ∃ o, H a = some o := by
  obtain ⟨i, d, e, es⟩ := h
  obtain ⟨v, ev, c⟩ := r.cell i _ e
  rw [es] at ev
  cases ev
  cases c with
  | own h1 h2 h3 => exact ⟨h1, _, h2⟩
theorem GoE.ownSub (g : GoE K F σ H ρ F1 H1 ρ1) {a : Addr} (h : Own σ ρ1 a) : Own σ ρ a := by
  obtain ⟨i, d, e, es⟩ := h
  obtain ⟨e', q⟩ := g.own i d e
  exact ⟨i, e', q, es⟩
theorem GoE.go (g : GoE K F σ H ρ F1 H1 ρ1) : Go K pr F σ H ρ F1 σ H1 ρ1 := ⟨g.rel, g.ext, g.new, g.keep, g.dom, fun a h => .inl (g.ownSub h), fun _ _ => rfl⟩
theorem GoE.refl (r : Rel K F σ H ρ) : GoE K F σ H ρ F H ρ := ⟨r, Ext.refl F, fun a h h' => absurd h h', fun _ _ h _ => h, fun _ h => h, fun i d e => ⟨d, e⟩, fun _ h => h⟩
theorem Go.refl (r : Rel K F σ H ρ) : Go K pr F σ H ρ F σ H ρ := (GoE.refl r).go
theorem Go.trans (a : Go K pr F σ H ρ F1 σ1 H1 ρ1) (b : Go K pr F1 σ1 H1 ρ1 F2 σ2 H2 ρ2) : Go K pr F σ H ρ F2 σ2 H2 ρ2 := by
  refine ⟨b.rel, a.ext.trans b.ext, fun x h h' => ?_, fun x o h h' => ?_, fun x h => a.dom x (b.dom x h), fun x h => ?_, fun i hi => (b.prot i hi).trans (a.prot i hi)⟩
  · cases e : F1 x with
    | some o => exact a.new x h (by rw [e]; simp)
    | none =>
      rcases b.new x e h' with q | q
      · exact .inl (a.dom x q)
      · rcases a.own x q with q | q
        · exact .inr q
        · exact .inl q
  · refine b.keep x o (a.keep x o h h') fun q => ?_
    rcases a.own x q with q | q
    · exact h' q
    · rw [q] at h; cases h
  · rcases b.own x h with q | q
    · exact a.own x q
    · exact .inr (a.dom x q)
theorem GoE.trans (a : GoE K F σ H ρ F1 H1 ρ1) (b : GoE K F1 σ H1 ρ1 F2 H2 ρ2) : GoE K F σ H ρ F2 H2 ρ2 := by
  have g := (a.go (pr := fun _ => false)).trans b.go
  refine ⟨b.rel, g.ext, g.new, g.keep, g.dom, fun i d e => ?_, fun i e => b.dead i (a.dead i e)⟩
  obtain ⟨e1, q⟩ := b.own i d e
  exact a.own i e1 q
/-- a plain step of the heap: new objects alone -/
structure Al (F H F' H' : Hp) : Prop where
  ext : Ext F F'
  new : ∀ a, F a = none → F' a ≠ none → H a = none
  keep : ∀ a o, H a = some o → H' a = some o
  sub : Ext F' H'
theorem Al.refl (h : Ext F H) : Al F H F H := ⟨Ext.refl F, fun a h h' => absurd h h', fun _ _ h => h, h⟩
theorem Al.goE (r : Rel K F σ H ρ) (a : Al F H F1 H1) : GoE K F σ H ρ F1 H1 ρ := by
  have dom : ∀ x, H1 x = none → H x = none := fun x h => by
    cases q : H x with
    | none => rfl
    | some o => rw [a.keep x o q] at h; cases h
  refine ⟨⟨a.sub, r.len, fun i c e => ?_, r.sep⟩, a.ext, fun x h h' => .inl (a.new x h h'), fun x o h _ => a.keep x o h, dom, fun i d e => ⟨d, e⟩, fun _ h => h⟩
  obtain ⟨v, ev, c'⟩ := r.cell i c e
  refine ⟨v, ev, ?_⟩
  cases c' with
  | shr h => exact .shr (h.ext a.ext)
  | @own b o d h1 h2 h3 =>
    refine .own ?_ (a.keep _ _ h2) ?_
    · cases q : F1 b with
      | none => rfl
      | some o' =>
        have := a.new b h1 (by rw [q]; simp)
        rw [this] at h2; cases h2
    · cases h3 with
      | lst t => exact .lst (t.ext a.ext)
      | dic t => exact .dic (t.ext a.ext)
theorem Top.ext {K : PySem.W.Frag} {F F' : Hp} {o : HO} {d : D} (h : Top K F o d) (e : Ext F F') : Top K F' o d := by
  cases h with
  | lst t => exact .lst (t.ext e)
  | dic t => exact .dic (t.ext e)
theorem Top.enc {K : PySem.W.Frag} {F : Hp} {a : Addr} {o : HO} {d : D} (h : Top K F o d) (e : F a = some o) : Enc K F (.ref a) d := by
  cases h with
  | lst t => exact .lst e t
  | dic t => exact .dic (.inl e) t
theorem ext_upd {F : Hp} {a : Addr} {o : HO} (h : F a = none) : Ext F (upd F a o) := fun b u e => by
  by_cases q : b = a
  · subst q; rw [h] at e; cases e
  · rw [upd_ne q]; exact e
/-- a value that was made: fresh (or owned before), known to nobody -/
inductive ValOk (K : PySem.W.Frag) (σ : St) (H : Hp) (ρ : En) (F' H' : Hp) (σ' : St) (ρ' : En) : Bool → V → D → Prop
  | shr {v : V} {d : D} : Enc K F' v d → ValOk K σ H ρ F' H' σ' ρ' false v d
  | own {a : Addr} {o : HO} {d : D} : F' a = none → H' a = some o → Top K F' o d → (H a = none ∨ Own σ ρ a) → ¬ Own σ' ρ' a → ValOk K σ H ρ F' H' σ' ρ' true (.ref a) d
/-- it is given to others from now on -/
theorem freeze {v : V} {fl : Bool} {d : D} (g : GoE K F σ H ρ F1 H1 ρ1) (x : ValOk K σ H ρ F1 H1 σ ρ1 fl v d) : ∃ F2, GoE K F σ H ρ F2 H1 ρ1 ∧ Ext F1 F2 ∧ Enc K F2 v d := by
  cases x with
  | shr h => exact ⟨F1, g, Ext.refl _, h⟩
  | @own a o _ h1 h2 h3 h4 h5 =>
    have e := ext_upd (o := o) h1
    refine ⟨upd F1 a o, ⟨⟨fun b u q => ?_, g.rel.len, fun i c q => ?_, g.rel.sep⟩, g.ext.trans e, fun b q q' => ?_, g.keep, g.dom, g.own, g.dead⟩, e, (h3.ext e).enc upd_same⟩
    · by_cases hb : b = a
      · subst hb; rw [upd_same] at q; cases q; exact h2
      · rw [upd_ne hb] at q; exact g.rel.sub b u q
    · obtain ⟨w, ew, c'⟩ := g.rel.cell i c q
      refine ⟨w, ew, ?_⟩
      cases c' with
      | shr h => exact .shr (h.ext e)
      | @own b u d' k1 k2 k3 =>
        refine .own ?_ k2 (k3.ext e)
        rw [upd_ne (fun z => h5 ?_)]
        · exact k1
        · rw [← z]; exact ⟨i, d', q, ew⟩
    · by_cases hb : b = a
      · subst hb; exact h4
      · rw [upd_ne hb] at q'; exact g.new b q q'
end

/-! ### exceptions -/
/-- what is fixed in a def: the written part, the classes of exceptions, the slots that may not be stored to -/
structure XT where
  K : PySem.W.Frag
  np : Addr
  tl : Addr
  te : Addr
  pr : Nat → Bool
inductive ExcOk (T : XT) (F : Hp) : Value → Option Addr → Exc → Prop
  | np : ExcOk T F (.ref T.np) none .np
  | tl : ExcOk T F (.ref T.tl) none .tl
  | te {d : Addr} {v w : V} {p q : D} : F d = some (.xd [("place", v), ("word", w)]) → Enc T.K F v p → Enc T.K F w q → ExcOk T F (.ref T.te) (some d) (.te p q)

/-! ### readings -/
section
variable (T : XT) (W : WX)
def PostE (F : Hp) (σ : St) (H : Hp) (ρ : En) (r : Res (Bool × D)) (Q : VK) : Prop := match r with
  | .ok (fl, d) ρ' => ∀ F' H' v, GoE T.K F σ H ρ F' H' ρ' → ValOk T.K σ H ρ F' H' σ ρ' fl v d → Q v H'
  | .err x ρ' => ∀ F' H' c dx, GoE T.K F σ H ρ F' H' ρ' → ExcOk T F' c dx x → W c dx σ H'
  | .stuck => False
def rE (m : M (Bool × D)) : TE := fun σ H Q => ∃ F ρ, Rel T.K F σ H ρ ∧ PostE T W F σ H ρ (m ρ) Q
/-- a test -/
def PostT (F : Hp) (σ : St) (H : Hp) (ρ : En) (r : Res Bool) (Q : Bool → Hp → Prop) : Prop := match r with
  | .ok b ρ' => ∀ F' H', GoE T.K F σ H ρ F' H' ρ' → Q b H'
  | .err x ρ' => ∀ F' H' c dx, GoE T.K F σ H ρ F' H' ρ' → ExcOk T F' c dx x → W c dx σ H'
  | .stuck => False
def rT (m : M Bool) : TT := fun σ H Q => ∃ F ρ, Rel T.K F σ H ρ ∧ PostT T W F σ H ρ (m ρ) Q
/-- an operand that is read only: a slot, or a value -/
inductive Tok where
  | slot (i : Nat)
  | val (d : D)
inductive TokOk (K : PySem.W.Frag) (F : Hp) (σ : St) (ρ : En) : V → Tok → Prop
  | slot {i : Nat} {v : V} : σ[i]? = some (some v) → TokOk K F σ ρ v (.slot i)
  | val {v : V} {d : D} : Enc K F v d → TokOk K F σ ρ v (.val d)
def PostO (F : Hp) (σ : St) (H : Hp) (ρ : En) (r : Res Tok) (Q : VK) : Prop := match r with
  | .ok t ρ' => ∀ F' H' v, GoE T.K F σ H ρ F' H' ρ' → TokOk T.K F' σ ρ' v t → Q v H'
  | .err x ρ' => ∀ F' H' c dx, GoE T.K F σ H ρ F' H' ρ' → ExcOk T F' c dx x → W c dx σ H'
  | .stuck => False
def rO (m : M Tok) : TE := fun σ H Q => ∃ F ρ, Rel T.K F σ H ρ ∧ PostO T W F σ H ρ (m ρ) Q
inductive Toks (K : PySem.W.Frag) (F : Hp) (σ : St) (ρ : En) : List V → List Tok → Prop
  | nil : Toks K F σ ρ [] []
  | cons {v : V} {vs : List V} {t : Tok} {ts : List Tok} : TokOk K F σ ρ v t → Toks K F σ ρ vs ts → Toks K F σ ρ (v :: vs) (t :: ts)
def PostA (F : Hp) (σ : St) (H : Hp) (ρ : En) (r : Res (List Tok)) (Q : List V → Hp → Prop) : Prop := match r with
  | .ok t ρ' => ∀ F' H' v, GoE T.K F σ H ρ F' H' ρ' → Toks T.K F' σ ρ' v t → Q v H'
  | .err x ρ' => ∀ F' H' c dx, GoE T.K F σ H ρ F' H' ρ' → ExcOk T F' c dx x → W c dx σ H'
  | .stuck => False
def rA (m : M (List Tok)) : TA := fun σ H Q => ∃ F ρ, Rel T.K F σ H ρ ∧ PostA T W F σ H ρ (m ρ) Q
/-- retained items -/
def PostL (F : Hp) (σ : St) (H : Hp) (ρ : En) (r : Res (List D)) (Q : List V → Hp → Prop) : Prop := match r with
  | .ok ds ρ' => ∀ F' H' vs, GoE T.K F σ H ρ F' H' ρ' → EncL T.K F' vs ds → Q vs H'
  | .err x ρ' => ∀ F' H' c dx, GoE T.K F σ H ρ F' H' ρ' → ExcOk T F' c dx x → W c dx σ H'
  | .stuck => False
def rL (m : M (List D)) : TA := fun σ H Q => ∃ F ρ, Rel T.K F σ H ρ ∧ PostL T W F σ H ρ (m ρ) Q
end
end PK
namespace PK
open PySem PySem.Spec PyProof.Rows L2
theorem line_eq : (sizeLine : Nat) = 16777216 := sizeLine_eq
theorem okS_len {x : Str} (h : okS x = true) : x.length ≤ sizeLine := by
  unfold okS at h
  rw [Bool.and_eq_true, decide_eq_true_eq] at h
  rw [line_eq]
  exact h.2
theorem okS_ok {x : Str} (h : okS x = true) : PyData.strOk x = true := by
  unfold okS at h
  rw [Bool.and_eq_true] at h
  exact h.1

/-! ### operands at their use -/
def rsv (ρ : En) : Tok → Option D
  | .slot i => (ρ.getD i none).map (·.2)
  | .val d => some d
theorem getD_cell {ρ : En} {i : Nat} {c : Bool × D} (h : ρ.getD i none = some c) : ρ[i]? = some (some c) := by
  rw [List.getD_eq_getElem?_getD] at h
  cases e : ρ[i]? with
  | none => rw [e] at h; cases h
  | some x => rw [e] at h; rw [show x = some c from h]
inductive RdV (K : PySem.W.Frag) (F H : Hp) : V → D → Prop
  | enc {v : V} {d : D} : Enc K F v d → RdV K F H v d
  | own {a : Addr} {o : HO} {d : D} : H a = some o → Top K F o d → RdV K F H (.ref a) d
section
variable {K : PySem.W.Frag} {F F1 H H1 : Hp} {σ : St} {ρ ρ1 : En} {v : V} {d : D} {t : Tok}
theorem TokOk.read (r : Rel K F σ H ρ) (h : TokOk K F σ ρ v t) (e : rsv ρ t = some d) : RdV K F H v d := by
  cases h with
  | val h => cases e; exact .enc h
  | @slot i v hs =>
    have e : (ρ.getD i none).map (·.2) = some d := e
    cases q : ρ.getD i none with
    | none => rw [q] at e; cases e
    | some c =>
      rw [q] at e
      cases e
      obtain ⟨w, ew, c⟩ := r.cell i _ (getD_cell q)
      rw [hs] at ew
      cases ew
      cases c with
      | shr h => exact .enc h
      | own h1 h2 h3 => exact .own h2 h3
theorem TokOk.go (g : GoE K F σ H ρ F1 H1 ρ1) (h : TokOk K F σ ρ v t) : TokOk K F1 σ ρ1 v t := by
  cases h with
  | val h => exact .val (h.ext g.ext)
  | slot hs => exact .slot hs
theorem Toks.go {vs : List V} {ts : List Tok} (g : GoE K F σ H ρ F1 H1 ρ1) (h : Toks K F σ ρ vs ts) : Toks K F1 σ ρ1 vs ts := by
  induction h with
  | nil => exact .nil
  | cons a _ ih => exact .cons (a.go g) ih
theorem RdV.list {ds : List D} (s : Ext F H) (h : RdV K F H v (.list ds)) : ∃ a vs, v = .ref a ∧ H a = some (.lst vs) ∧ EncL K F vs ds := by
  cases h with
  | enc h => cases h with | lst h t => exact ⟨_, _, rfl, s _ _ h, t⟩
  | own h t => cases t with | lst t => exact ⟨_, _, rfl, h, t⟩
theorem RdV.tuple {ds : List D} (s : Ext F H) (h : RdV K F H v (.tuple ds)) : ∃ a vs, v = .ref a ∧ SqT K H a vs ∧ EncL K F vs ds := by
  cases h with
  | enc h => cases h with | tup h t => exact ⟨_, _, rfl, SqT.ext s h, t⟩
  | own h t => cases t
theorem RdV.int {i : Int} (h : RdV K F H v (.int i)) : v = .int i := by
  cases h with
  | enc h => cases h; rfl
  | own h t => cases t
theorem RdV.str {x : Str} (h : RdV K F H v (.str x)) : v = .str x ∧ okS x = true := by
  cases h with
  | enc h => cases h with | str x h => exact ⟨rfl, h⟩
  | own h t => cases t
theorem RdV.bool {b : Bool} (h : RdV K F H v (.bool b)) : v = .bl b := by
  cases h with
  | enc h => cases h; rfl
  | own h t => cases t
theorem RdV.none (h : RdV K F H v .none) : v = .non := by
  cases h with
  | enc h => cases h; rfl
  | own h t => cases t
/-- a dict of ours, not the script -/
def isDic : List (D × D) → Bool
  | (.none, _) :: _ => false
  | _ => true
theorem RdV.dict {ds : List (D × D)} (s : Ext F H) (h : RdV K F H v (.dict ds)) (n : isDic ds = true) : ∃ a kvs, v = .ref a ∧ Rd H a (.dK kvs) ∧ EncK K F kvs ds := by
  cases h with
  | enc h =>
    cases h with
    | dic h t => exact ⟨_, _, rfl, Rd.ext s h, t⟩
    | scr h => cases n
  | own h t => cases t with | dic t => exact ⟨_, _, rfl, .inl h, t⟩
theorem EncK.isDic {kvs : List (Key × V)} {ds : List (D × D)} (h : EncK K F kvs ds) : isDic ds = true := by
  cases h with
  | nil => rfl
  | @cons k _ _ _ _ _ _ _ => cases k <;> rfl
theorem RdV.script {ds : List D} (s : Ext F H) (h : RdV K F H v (.dict [(.none, .list ds)])) : ∃ (a : Addr) (ns : List Int), v = .ref a ∧ SqL K H a (ns.map V.int) ∧ ds = ns.map .int := by
  cases h with
  | enc h =>
    cases h with
    | dic h t => exact absurd t.isDic (by simp [isDic])
    | scr h => exact ⟨_, _, rfl, SqL.ext s h, rfl⟩
  | own h t =>
    cases t with
    | dic t => exact absurd t.isDic (by simp [isDic])
end

/-! ### operations by values -/
/-- a value just made -/
inductive NewOk (K : PySem.W.Frag) (H F' H' : Hp) : Bool → V → D → Prop
  | shr {v : V} {d : D} : Enc K F' v d → NewOk K H F' H' false v d
  | own {a : Addr} {o : HO} {d : D} : F' a = none → H' a = some o → Top K F' o d → H a = none → NewOk K H F' H' true (.ref a) d
/-- what is wanted of an operation's answer -/
def Ans (K : PySem.W.Frag) (F H : Hp) (r : Bool × D) (Q : VK) : Prop := ∀ F' H' v, Al F H F' H' → NewOk K H F' H' r.1 v r.2 → Q v H'
theorem Ans.here {K : PySem.W.Frag} {F H : Hp} {v : V} {d : D} {Q : VK} (s : Ext F H) (h : Ans K F H (false, d) Q) (e : Enc K F v d) : Q v H := h F H v (Al.refl s) (.shr e)
theorem Al.one {F H : Hp} {p : Addr} {o : HO} (s : Ext F H) (hp : H p = none) : Al F H F (upd H p o) := ⟨Ext.refl F, fun a h h' => absurd h h', fun a u e => by rw [upd_ne (ne_of_none e hp)]; exact e, fun a u e => by rw [upd_ne (ne_of_none (s _ _ e) hp)]; exact s _ _ e⟩
theorem none_of_sub {F H : Hp} {p : Addr} (s : Ext F H) (hp : H p = none) : F p = none := by
  cases q : F p with
  | none => rfl
  | some o => rw [s _ _ q] at hp; cases hp
theorem Al.tup {F H : Hp} {p : Addr} {o : HO} (s : Ext F H) (hp : H p = none) : Al F H (upd F p o) (upd H p o) := by
  have hf := none_of_sub s hp
  refine ⟨ext_upd hf, fun a h h' => ?_, (Al.one s hp).keep, fun a u e => ?_⟩
  · by_cases q : a = p
    · subst q; exact hp
    · rw [upd_ne q] at h'; exact absurd h h'
  · by_cases q : a = p
    · subst q; rw [upd_same] at e ⊢; exact e
    · rw [upd_ne q] at e ⊢; exact s _ _ e
/-- a new list, owned -/
theorem Ans.lst {K : PySem.W.Frag} {F H : Hp} {p : Addr} {vs : List V} {ds : List D} {Q : VK} (s : Ext F H) (h : Ans K F H (true, .list ds) Q) (e : EncL K F vs ds) (hp : H p = none) : Q (.ref p) (upd H p (.lst vs)) :=
  h F _ _ (Al.one s hp) (.own (none_of_sub s hp) upd_same (.lst e) hp)
theorem Ans.dic {K : PySem.W.Frag} {F H : Hp} {p : Addr} {kvs : List (Key × V)} {ds : List (D × D)} {Q : VK} (s : Ext F H) (h : Ans K F H (true, .dict ds) Q) (e : EncK K F kvs ds) (hp : H p = none) : Q (.ref p) (upd H p (.dK kvs)) :=
  h F _ _ (Al.one s hp) (.own (none_of_sub s hp) upd_same (.dic e) hp)
/-- a new tuple, given at once -/
theorem Ans.tup {K : PySem.W.Frag} {F H : Hp} {p : Addr} {vs : List V} {ds : List D} {Q : VK} (s : Ext F H) (h : Ans K F H (false, .tuple ds) Q) (e : EncL K F vs ds) (hp : H p = none) : Q (.ref p) (upd H p (.tup vs)) :=
  h _ _ _ (Al.tup s hp) (.shr (.tup (.inl (.inl upd_same)) (e.ext (ext_upd (none_of_sub s hp)))))

section
variable {T : XT} {W : WX} {F F1 H H1 : Hp} {σ : St} {ρ ρ1 : En}
theorem ValOk.of {fl : Bool} {v : V} {d : D} {F2 H2 : Hp} (r : Rel T.K F σ H ρ) (g : GoE T.K F σ H ρ F1 H1 ρ1) (a : Al F1 H1 F2 H2) (n : NewOk T.K H1 F2 H2 fl v d) : ValOk T.K σ H ρ F2 H2 σ ρ1 fl v d := by
  cases n with
  | shr h => exact .shr h
  | own h1 h2 h3 h4 =>
    refine .own h1 h2 h3 (.inl (g.dom _ h4)) fun q => ?_
    obtain ⟨_, o, e⟩ := g.rel.ownIn q
    rw [e] at h4; cases h4
/-- the rest of an expression, from a later state -/
theorem PostE.later {r : Res (Bool × D)} {Q : VK} (h : PostE T W F σ H ρ r Q) (g : GoE T.K F σ H ρ F1 H1 ρ1) : PostE T W F1 σ H1 ρ1 r Q := by
  cases r with
  | ok a ρ2 =>
    obtain ⟨fl, d⟩ := a
    intro F2 H2 v g2 x
    refine h F2 H2 v (g.trans g2) ?_
    cases x with
    | shr e => exact .shr e
    | own h1 h2 h3 h4 h5 => exact .own h1 h2 h3 (h4.elim (fun q => .inl (g.dom _ q)) fun q => .inr (g.ownSub q)) h5
  | err x ρ2 => exact fun F2 H2 c dx g2 x => h F2 H2 c dx (g.trans g2) x
  | stuck => exact h
theorem PostE.ans {fl : Bool} {d : D} {Q : VK} (h : PostE T W F σ H ρ (.ok (fl, d) ρ) Q) (r : Rel T.K F σ H ρ) : Ans T.K F H (fl, d) Q := fun F' H' v a n =>
  h F' H' v (Al.goE r a) (ValOk.of r (GoE.refl r) a n)
/-- an operand first -/
theorem PostE.bndO {m : M Tok} {k : Tok → M (Bool × D)} {Q : VK} (h : PostE T W F σ H ρ (bnd m k ρ) Q) :
    PostO T W F σ H ρ (m ρ) fun v H1 => ∃ F1 ρ1 t, GoE T.K F σ H ρ F1 H1 ρ1 ∧ TokOk T.K F1 σ ρ1 v t ∧ PostE T W F1 σ H1 ρ1 (k t ρ1) Q := by
  unfold bnd at h
  cases e : m ρ with
  | ok t ρ1 =>
    rw [e] at h
    exact fun F1 H1 v g x => ⟨F1, ρ1, t, g, x, h.later g⟩
  | err x ρ1 => rw [e] at h; exact h
  | stuck => rw [e] at h; exact h
theorem PostE.bndA {m : M (List Tok)} {k : List Tok → M (Bool × D)} {Q : VK} (h : PostE T W F σ H ρ (bnd m k ρ) Q) :
    PostA T W F σ H ρ (m ρ) fun v H1 => ∃ F1 ρ1 t, GoE T.K F σ H ρ F1 H1 ρ1 ∧ Toks T.K F1 σ ρ1 v t ∧ PostE T W F1 σ H1 ρ1 (k t ρ1) Q := by
  unfold bnd at h
  cases e : m ρ with
  | ok t ρ1 =>
    rw [e] at h
    exact fun F1 H1 v g x => ⟨F1, ρ1, t, g, x, h.later g⟩
  | err x ρ1 => rw [e] at h; exact h
  | stuck => rw [e] at h; exact h
theorem PostE.bndL {m : M (List D)} {k : List D → M (Bool × D)} {Q : VK} (h : PostE T W F σ H ρ (bnd m k ρ) Q) :
    PostL T W F σ H ρ (m ρ) fun v H1 => ∃ F1 ρ1 t, GoE T.K F σ H ρ F1 H1 ρ1 ∧ EncL T.K F1 v t ∧ PostE T W F1 σ H1 ρ1 (k t ρ1) Q := by
  unfold bnd at h
  cases e : m ρ with
  | ok t ρ1 =>
    rw [e] at h
    exact fun F1 H1 v g x => ⟨F1, ρ1, t, g, x, h.later g⟩
  | err x ρ1 => rw [e] at h; exact h
  | stuck => rw [e] at h; exact h
theorem PostE.bndT {m : M Bool} {k : Bool → M (Bool × D)} {Q : VK} (h : PostE T W F σ H ρ (bnd m k ρ) Q) :
    PostT T W F σ H ρ (m ρ) fun v H1 => ∃ F1 ρ1, GoE T.K F σ H ρ F1 H1 ρ1 ∧ PostE T W F1 σ H1 ρ1 (k v ρ1) Q := by
  unfold bnd at h
  cases e : m ρ with
  | ok t ρ1 =>
    rw [e] at h
    exact fun F1 H1 g => ⟨F1, ρ1, g, h.later g⟩
  | err x ρ1 => rw [e] at h; exact h
  | stuck => rw [e] at h; exact h
end
/-- an answer of two operands -/
def ans (g : Option (Bool × D)) : M (Bool × D) := fun ρ => match g with
  | some r => .ok r ρ
  | none => .stuck
def op1 (a : M Tok) (g : D → Option (Bool × D)) : M (Bool × D) := bnd a fun t ρ => ans ((rsv ρ t).bind g) ρ
def op2 (a b : M Tok) (g : D → D → Option (Bool × D)) : M (Bool × D) := bnd a fun t => bnd b fun u ρ => ans ((rsv ρ t).bind fun x => (rsv ρ u).bind fun y => g x y) ρ
def opN (a : M (List Tok)) (g : List D → Option (Bool × D)) : M (Bool × D) := bnd a fun ts ρ => ans ((ts.mapM (rsv ρ)).bind g) ρ
def Snd1 (K : PySem.W.Frag) (r : V → Hp → VK → Prop) (g : D → Option (Bool × D)) : Prop := ∀ F H x d z Q, Ext F H → RdV K F H x d → g d = some z → Ans K F H z Q → r x H Q
def Snd2 (K : PySem.W.Frag) (r : R2) (g : D → D → Option (Bool × D)) : Prop := ∀ F H x y d e z Q, Ext F H → RdV K F H x d → RdV K F H y e → g d e = some z → Ans K F H z Q → r x y H Q
inductive RdL (K : PySem.W.Frag) (F H : Hp) : List V → List D → Prop
  | nil : RdL K F H [] []
  | cons {v : V} {vs : List V} {d : D} {ds : List D} : RdV K F H v d → RdL K F H vs ds → RdL K F H (v :: vs) (d :: ds)
def SndN (K : PySem.W.Frag) (r : List V → Hp → VK → Prop) (g : List D → Option (Bool × D)) : Prop := ∀ F H xs ds z Q, Ext F H → RdL K F H xs ds → g ds = some z → Ans K F H z Q → r xs H Q
section
variable {T : XT} {W : WX} {F F1 H H1 : Hp} {σ : St} {ρ ρ1 : En} {Q : VK}
theorem ans_some {o : Option (Bool × D)} (r : Rel T.K F σ H ρ) (h : PostE T W F σ H ρ (ans o ρ) Q) : ∃ z, o = some z ∧ Ans T.K F H z Q := by
  unfold ans at h
  cases o with
  | none => exact h.elim
  | some z => exact ⟨z, rfl, PostE.ans (d := z.2) (fl := z.1) h r⟩
theorem op1_read {r : V → Hp → VK → Prop} {g : D → Option (Bool × D)} {a : M Tok} (s : Snd1 T.K r g) (h : rE T W (op1 a g) σ H Q) : tUn r (rO T W a) σ H Q := by
  obtain ⟨F, ρ, rel, h⟩ := h
  refine ⟨F, ρ, rel, ?_⟩
  have h1 := PostE.bndO h
  cases e : a ρ with
  | stuck => rw [e] at h1; exact h1
  | err x ρ1 => rw [e] at h1; exact h1
  | ok t ρ1 =>
    rw [e] at h1
    intro F1 H1 v g1 x1
    obtain ⟨F2, ρ2, t2, g2, x2, h2⟩ := h1 F1 H1 v g1 x1
    obtain ⟨z, ez, an⟩ := ans_some g2.rel h2
    cases q : rsv ρ2 t2 with
    | none => rw [q] at ez; cases ez
    | some d =>
      rw [q] at ez
      exact s _ _ _ _ _ _ g2.rel.sub (x2.read g2.rel q) ez an
theorem op2_read {r : R2} {g : D → D → Option (Bool × D)} {a b : M Tok} (s : Snd2 T.K r g) (h : rE T W (op2 a b g) σ H Q) : tOp r (rO T W a) (rO T W b) σ H Q := by
  obtain ⟨F, ρ, rel, h⟩ := h
  refine ⟨F, ρ, rel, ?_⟩
  have h1 := PostE.bndO h
  cases e : a ρ with
  | stuck => rw [e] at h1; exact h1
  | err x ρ1 => rw [e] at h1; exact h1
  | ok t ρ1 =>
    rw [e] at h1
    intro F1 H1 v g1 x1
    obtain ⟨F2, ρ2, t2, g2, x2, h2⟩ := h1 F1 H1 v g1 x1
    refine ⟨F2, ρ2, g2.rel, ?_⟩
    have h3 := PostE.bndO h2
    cases e' : b ρ2 with
    | stuck => rw [e'] at h3; exact h3
    | err x ρ1 => rw [e'] at h3; exact h3
    | ok u ρ3 =>
      rw [e'] at h3
      intro F3 H3 w g3 x3
      obtain ⟨F4, ρ4, t4, g4, x4, h4⟩ := h3 F3 H3 w g3 x3
      obtain ⟨z, ez, an⟩ := ans_some g4.rel h4
      cases q : rsv ρ4 t2 with
      | none => rw [q] at ez; cases ez
      | some d =>
        rw [q] at ez
        cases q' : rsv ρ4 t4 with
        | none => simp [q'] at ez
        | some d' =>
          simp only [q', Option.bind_some] at ez
          exact s _ _ _ _ _ _ _ _ g4.rel.sub ((x2.go g4).read g4.rel q) (x4.read g4.rel q') ez an
theorem Toks.read {vs : List V} {ts : List Tok} (r : Rel T.K F σ H ρ) (h : Toks T.K F σ ρ vs ts) : ∀ {ds : List D}, ts.mapM (rsv ρ) = some ds → RdL T.K F H vs ds := by
  induction h with
  | nil => intro ds e; simp at e; subst e; exact .nil
  | @cons v vs t ts a _ ih =>
    intro ds e
    rw [List.mapM_cons] at e
    cases q : rsv ρ t with
    | none => rw [q] at e; simp at e
    | some d =>
      rw [q] at e
      cases q' : ts.mapM (rsv ρ) with
      | none => rw [q'] at e; simp at e
      | some es =>
        rw [q'] at e
        simp at e
        subst e
        exact .cons (a.read r q) (ih q')
theorem opN_read {r : List V → Hp → VK → Prop} {g : List D → Option (Bool × D)} {a : M (List Tok)} (s : SndN T.K r g) (h : rE T W (opN a g) σ H Q) : tCB r (rA T W a) σ H Q := by
  obtain ⟨F, ρ, rel, h⟩ := h
  refine ⟨F, ρ, rel, ?_⟩
  have h1 := PostE.bndA h
  cases e : a ρ with
  | stuck => rw [e] at h1; exact h1
  | err x ρ1 => rw [e] at h1; exact h1
  | ok t ρ1 =>
    rw [e] at h1
    intro F1 H1 v g1 x1
    obtain ⟨F2, ρ2, t2, g2, x2, h2⟩ := h1 F1 H1 v g1 x1
    obtain ⟨z, ez, an⟩ := ans_some g2.rel h2
    cases q : t2.mapM (rsv ρ2) with
    | none => rw [q] at ez; cases ez
    | some ds =>
      rw [q] at ez
      exact s _ _ _ _ _ _ g2.rel.sub (x2.read g2.rel q) ez an
end
theorem PE.mono {X : Cx} {e : Expr} {t t' : TE} (h : PE X e t) (k : ∀ σ H Q, t' σ H Q → t σ H Q) : PE X e t' := ⟨fun pins s σ H Q I q => h.run pins s σ H Q I (k σ H Q q)⟩
theorem PT.mono {X : Cx} {e : Expr} {t t' : TT} (h : PT X e t) (k : ∀ σ H Q, t' σ H Q → t σ H Q) : PT X e t' := ⟨fun pins s σ H Q I q => h.run pins s σ H Q I (k σ H Q q)⟩
theorem PA.mono {X : Cx} {e : List Expr} {t t' : TA} (h : PA X e t) (k : ∀ σ H Q, t' σ H Q → t σ H Q) : PA X e t' := ⟨fun pos pins s σ H Q I q => h.run pos pins s σ H Q I (k σ H Q q)⟩
theorem PS.mono {X : Cx} {e : Stmt} {t t' : TS} (h : PS X e t) (k : ∀ D σ H, t' D σ H → t D σ H) : PS X e t' := ⟨fun pins s σ H Q I q => h.run pins s σ H Q I (k Q σ H q)⟩
theorem PSs.mono {X : Cx} {e : List Stmt} {t t' : TS} (h : PSs X e t) (k : ∀ D σ H, t' D σ H → t D σ H) : PSs X e t' := ⟨fun pins s σ H Q I q => h.run pins s σ H Q I (k Q σ H q)⟩
end PK
set_option maxHeartbeats 1000000
namespace PK
open PySem PySem.Spec PyProof.Rows L2

/-! ### the context of a derivation -/
structure G0 where
  P : Program
  w : World
  mg : Str → Option Value
  base : Heap
structure Cok (G : G0) (T : XT) (W : WX) (k : Nat) (N : List Str) (sc : Scope) (fnc : Str → Bool) (X : Cx) : Prop where
  hP : X.prog = G.P
  hw : X.w = G.w
  hK : X.K = T.K
  hm : X.mg = G.mg
  hb : X.base = G.base
  hN : X.N = N
  nd : N.Nodup
  hs : X.env.scope = sc
  calm : X.calm = true
  room : Room k X.A
  pass : ∀ σ, PassesAt (L2.CX X.prog X.w) X σ (WE W σ)
  hfn : X.fn = fnc

section
variable {G : G0} {T : XT} {W : WX} {k : Nat} {N : List Str} {sc : Scope} {fnc : Str → Bool} {X : Cx} {pos : Pos}

/-! ### names, constants -/
def oV (i : Nat) : M Tok := fun ρ => match ρ.getD i none with
  | some _ => .ok (.slot i) ρ
  | none => .stuck
/-- a name that is retained: its object is given to others -/
def rV (i : Nat) : M (Bool × D) := fun ρ => match ρ.getD i none with
  | some (true, d) => .ok (false, d) (ρ.set i (some (false, d)))
  | some (false, d) => .ok (false, d) ρ
  | none => .stuck
/-- a name whose object goes on with the value (return) -/
def mV (i : Nat) : M (Bool × D) := fun ρ => match ρ.getD i none with
  | some (true, d) => .ok (true, d) (ρ.set i none)
  | some (false, d) => .ok (false, d) ρ
  | none => .stuck
def cst (d : D) : M (Bool × D) := fun ρ => .ok (false, d) ρ
/-- an operand that is a value -/
def oE (m : M (Bool × D)) : M Tok := bnd m fun r ρ => .ok (.val r.2) ρ
def visB (sc : Scope) (x : Str) : Bool := match sc.names.lookup x with
  | some .local => true
  | some .cell => true
  | some .free => true
  | _ => false
theorem vis_of {sc : Scope} {x : Str} (h : visB sc x = true) : Vis sc x := by
  unfold visB at h
  unfold Vis
  split at h <;> simp_all

theorem o_var {i : Nat} {x : Str} (c : Cok G T W k N sc fnc X) (hi : N[i]? = some x) (hv : visB sc x = true) (hd : (x == ("__debug__" : Str)) = false := by decide) (hcd : (x == ("__classdict__" : Str)) = false := by decide) : PE X (.Name x pos) (rO T W (oV i)) := by
  refine PE.mono (pe_var (i := i) (by rw [c.hN]; exact hi) (by rw [c.hs]; exact vis_of hv) hd hcd) fun σ H Q ⟨F, ρ, rel, h⟩ => ?_
  unfold oV PostO at h
  cases e : ρ.getD i none with
  | none => rw [e] at h; exact h.elim
  | some z =>
    rw [e] at h
    obtain ⟨v, ev, _⟩ := rel.cell i _ (getD_cell e)
    exact ⟨v, ev, h F H v (GoE.refl rel) (.slot ev)⟩
theorem set_get {ρ : En} {i j : Nat} {c c' : Ce} (h : (ρ.set i c)[j]? = some c') : (j = i ∧ c' = c) ∨ (j ≠ i ∧ ρ[j]? = some c') := by
  by_cases e : j = i
  · subst e
    rw [List.getElem?_set] at h
    split at h
    · split at h
      · cases h; exact .inl ⟨rfl, rfl⟩
      · cases h
    · rename_i q; exact absurd rfl q
  · rw [List.getElem?_set_ne (Ne.symm e)] at h
    exact .inr ⟨e, h⟩
theorem freeze_slot {K : PySem.W.Frag} {F H : Hp} {σ : St} {ρ : En} {i : Nat} {d : D} (rel : Rel K F σ H ρ) (e : ρ.getD i none = some (true, d)) :
    ∃ F' v, σ[i]? = some (some v) ∧ GoE K F σ H ρ F' H (ρ.set i (some (false, d))) ∧ Enc K F' v d := by
  have e := getD_cell e
  obtain ⟨v, ev, c⟩ := rel.cell i _ e
  cases c with
  | @own a o _ h1 h2 h3 =>
    have x := ext_upd (o := o) h1
    refine ⟨upd F a o, _, ev, ⟨⟨fun b u q => ?_, by rw [List.length_set]; exact rel.len, fun j c q => ?_, fun j l b d1 d2 q1 q2 s1 s2 => ?_⟩, x, fun b q q' => ?_, fun _ _ h _ => h, fun _ h => h, fun j d1 q => ?_, fun j q => ?_⟩, (h3.ext x).enc upd_same⟩
    · by_cases hb : b = a
      · subst hb; rw [upd_same] at q; cases q; exact h2
      · rw [upd_ne hb] at q; exact rel.sub b u q
    · rcases set_get q with ⟨rfl, e2⟩ | ⟨ne, q⟩
      · cases e2; exact ⟨_, ev, .shr ((h3.ext x).enc upd_same)⟩
      · obtain ⟨w, ew, c'⟩ := rel.cell j c q
        refine ⟨w, ew, ?_⟩
        cases c' with
        | shr h => exact .shr (h.ext x)
        | @own b u d' k1 k2 k3 =>
          refine .own ?_ k2 (k3.ext x)
          rw [upd_ne (fun z => ne ?_)]
          · exact k1
          · exact rel.sep j i b d' d q e ew (by rw [z]; exact ev)
    · rcases set_get q1 with ⟨_, e1⟩ | ⟨_, q1⟩
      · cases e1
      · rcases set_get q2 with ⟨_, e1⟩ | ⟨_, q2⟩
        · cases e1
        · exact rel.sep j l b d1 d2 q1 q2 s1 s2
    · by_cases hb : b = a
      · subst hb; exact .inr ⟨i, d, e, ev⟩
      · rw [upd_ne hb] at q'; exact absurd q q'
    · rcases set_get q with ⟨_, e1⟩ | ⟨_, q⟩
      · cases e1
      · exact ⟨d1, q⟩
    · rw [List.getElem?_set_ne (fun z => by subst z; rw [e] at q; cases q)]
      exact q
theorem e_var {i : Nat} {x : Str} (c : Cok G T W k N sc fnc X) (hi : N[i]? = some x) (hv : visB sc x = true) (hd : (x == ("__debug__" : Str)) = false := by decide) (hcd : (x == ("__classdict__" : Str)) = false := by decide) : PE X (.Name x pos) (rE T W (rV i)) := by
  refine PE.mono (pe_var (i := i) (by rw [c.hN]; exact hi) (by rw [c.hs]; exact vis_of hv) hd hcd) fun σ H Q ⟨F, ρ, rel, h⟩ => ?_
  unfold rV PostE at h
  cases e : ρ.getD i none with
  | none => rw [e] at h; exact h.elim
  | some z =>
    obtain ⟨fl, d⟩ := z
    cases fl with
    | false =>
      rw [e] at h
      obtain ⟨v, ev, c'⟩ := rel.cell i _ (getD_cell e)
      cases c' with
      | shr c' => exact ⟨v, ev, h F H v (GoE.refl rel) (.shr c')⟩
    | true =>
      rw [e] at h
      obtain ⟨F', v, ev, g, en⟩ := freeze_slot rel e
      exact ⟨v, ev, h F' H v g (.shr en)⟩
theorem e_mvar {i : Nat} {x : Str} (c : Cok G T W k N sc fnc X) (hi : N[i]? = some x) (hv : visB sc x = true) (hd : (x == ("__debug__" : Str)) = false := by decide) (hcd : (x == ("__classdict__" : Str)) = false := by decide) : PE X (.Name x pos) (rE T W (mV i)) := by
  refine PE.mono (pe_var (i := i) (by rw [c.hN]; exact hi) (by rw [c.hs]; exact vis_of hv) hd hcd) fun σ H Q ⟨F, ρ, rel, h⟩ => ?_
  unfold mV PostE at h
  cases e : ρ.getD i none with
  | none => rw [e] at h; exact h.elim
  | some z =>
    obtain ⟨fl, d⟩ := z
    have e0 := getD_cell e
    obtain ⟨v, ev, c'⟩ := rel.cell i _ e0
    cases fl with
    | false =>
      rw [e] at h
      cases c' with
      | shr c' => exact ⟨v, ev, h F H v (GoE.refl rel) (.shr c')⟩
    | true =>
      rw [e] at h
      cases c' with
      | @own a o _ h1 h2 h3 =>
        have no : ¬ Own σ (ρ.set i none) a := fun ⟨j, d1, q, s⟩ => by
          rcases set_get q with ⟨_, e1⟩ | ⟨ne, q⟩
          · cases e1
          · exact ne (rel.sep j i a d1 d q e0 s ev)
        refine ⟨_, ev, h F H _ ⟨⟨rel.sub, by rw [List.length_set]; exact rel.len, fun j c q => ?_, fun j l b d1 d2 q1 q2 s1 s2 => ?_⟩, Ext.refl _, fun _ q q' => absurd q q', fun _ _ h _ => h, fun _ h => h, fun j d1 q => ?_, fun j q => ?_⟩ (.own h1 h2 h3 (.inr ⟨i, d, e0, ev⟩) no)⟩
        · rcases set_get q with ⟨_, e1⟩ | ⟨_, q⟩
          · cases e1
          · exact rel.cell j c q
        · rcases set_get q1 with ⟨_, e1⟩ | ⟨_, q1⟩
          · cases e1
          · rcases set_get q2 with ⟨_, e1⟩ | ⟨_, q2⟩
            · cases e1
            · exact rel.sep j l b d1 d2 q1 q2 s1 s2
        · rcases set_get q with ⟨_, e1⟩ | ⟨_, q⟩
          · cases e1
          · exact ⟨d1, q⟩
        · rw [List.getElem?_set_ne (fun z => by subst z; rw [e0] at q; cases q)]
          exact q
theorem r_cst {v : V} {d : D} {σ : St} {H : Hp} {Q : VK} (hv : ∀ F, Enc T.K F v d) (h : rE T W (cst d) σ H Q) : Q v H := by
  obtain ⟨F, ρ, rel, h⟩ := h
  exact h F H v (GoE.refl rel) (.shr (hv F))
theorem e_int {i : Int} {j : Nat} : PE X (.Constant (.int i) j pos) (rE T W (cst (.int i))) := PE.mono pe_int fun _ _ _ h => r_cst (fun _ => .int i) h
theorem e_bl {b : Bool} {j : Nat} : PE X (.Constant (.bool b) j pos) (rE T W (cst (.bool b))) := PE.mono pe_bl fun _ _ _ h => r_cst (fun _ => .bl b) h
theorem e_non {j : Nat} : PE X (.Constant .none j pos) (rE T W (cst .none)) := PE.mono pe_non fun _ _ _ h => r_cst (fun _ => .non) h
theorem e_str {x : Str} {j : Nat} (h : okS x = true) : PE X (.Constant (.str x) j pos) (rE T W (cst (.str x))) := PE.mono pe_str fun _ _ _ q => r_cst (fun _ => .str x h) q
/-- a module's constant -/
theorem e_glob {x : Str} {v : V} {u : Value} {d : D} (c : Cok G T W k N sc fnc X) (hg : sc.names.lookup x = some .globalImplicit) (hm : G.mg x = some u) (r : RelV v u) (hv : ∀ F, Enc T.K F v d) (hd : (x == ("__debug__" : Str)) = false := by decide) :
    PE X (.Name x pos) (rE T W (cst d)) := PE.mono (pe_glob (show X.env.scope.names.lookup x = _ by rw [c.hs]; exact hg) (by rw [c.hm]; exact hm) r hd) fun _ _ _ q => r_cst hv q
theorem o_val {e : Expr} {m : M (Bool × D)} (h : PE X e (rE T W m)) : PE X e (rO T W (oE m)) := by
  refine PE.mono h fun σ H Q ⟨F, ρ, rel, h⟩ => ⟨F, ρ, rel, ?_⟩
  unfold oE bnd at h
  cases e : m ρ with
  | stuck => rw [e] at h; exact h
  | err x ρ1 => rw [e] at h; exact h
  | ok r ρ1 =>
    rw [e] at h
    obtain ⟨fl, d⟩ := r
    intro F1 H1 v g x
    obtain ⟨F2, g2, _, en⟩ := freeze g x
    exact h F2 H1 v g2 (.val en)
/-- a temporary, given to others at once -/
theorem PostE.frz {F H : Hp} {σ : St} {ρ : En} {m : M (Bool × D)} {kk : Bool × D → M (Bool × D)} {Q : VK} (h : PostE T W F σ H ρ (bnd m kk ρ) Q) :
    PostE T W F σ H ρ (m ρ) fun v H1 => ∃ F1 ρ1 r, GoE T.K F σ H ρ F1 H1 ρ1 ∧ Enc T.K F1 v r.2 ∧ PostE T W F1 σ H1 ρ1 (kk r ρ1) Q := by
  unfold bnd at h
  cases e : m ρ with
  | stuck => rw [e] at h; exact h
  | err x ρ1 => rw [e] at h; exact h
  | ok r ρ1 =>
    rw [e] at h
    intro F1 H1 v g x
    obtain ⟨F2, g2, _, en⟩ := freeze g x
    exact ⟨F2, ρ1, r, g2, en, h.later g2⟩

/-! ### argument lists -/
def aNil : M (List Tok) := fun ρ => .ok [] ρ
def aCons (a : M Tok) (r : M (List Tok)) : M (List Tok) := bnd a fun t => bnd r fun ts ρ => .ok (t :: ts) ρ
def lNil : M (List D) := fun ρ => .ok [] ρ
def lCons (a : M (Bool × D)) (r : M (List D)) : M (List D) := bnd a fun x => bnd r fun xs ρ => .ok (x.2 :: xs) ρ
/-- not a starred item -/
def noStar : Expr → Bool
  | .Starred .. => false
  | _ => true
theorem star_cons {e : Expr} (h : noStar e = true) (es : List Expr) (env : PySem.Env) : starEach (e :: es) env = (false, eval e env) :: starEach es env := by
  cases e <;> first | rfl | cases h
theorem a_nil : PA X [] (rA T W aNil) := PA.mono pa_nil fun σ H Q ⟨F, ρ, rel, h⟩ => h F H [] (GoE.refl rel) .nil
theorem a_cons {e : Expr} {es : List Expr} {m : M Tok} {ms : M (List Tok)} (ha : PE X e (rO T W m)) (hr : PA X es (rA T W ms)) (hs : noStar e = true := by rfl) : PA X (e :: es) (rA T W (aCons m ms)) := by
  refine PA.mono (pa_cons ha hr (star_cons hs _ _)) fun σ H Q ⟨F, ρ, rel, h⟩ => ⟨F, ρ, rel, ?_⟩
  unfold aCons bnd at h
  cases e1 : m ρ with
  | stuck => rw [e1] at h; exact h
  | err x ρ1 => rw [e1] at h; exact h
  | ok t ρ1 =>
    rw [e1] at h
    intro F1 H1 v g1 x1
    refine ⟨F1, ρ1, g1.rel, ?_⟩
    simp only at h
    cases e2 : ms ρ1 with
    | stuck => rw [e2] at h; exact h
    | err x ρ2 => rw [e2] at h; exact fun F2 H2 cc dx g2 ex => h F2 H2 cc dx (g1.trans g2) ex
    | ok ts ρ2 =>
      rw [e2] at h
      intro F2 H2 vs g2 x2
      exact h F2 H2 (v :: vs) (g1.trans g2) (.cons (x1.go g2) x2)
theorem l_nil : PA X [] (rL T W lNil) := PA.mono pa_nil fun σ H Q ⟨F, ρ, rel, h⟩ => h F H [] (GoE.refl rel) .nil
theorem l_cons {e : Expr} {es : List Expr} {m : M (Bool × D)} {ms : M (List D)} (ha : PE X e (rE T W m)) (hr : PA X es (rL T W ms)) (hs : noStar e = true := by rfl) : PA X (e :: es) (rL T W (lCons m ms)) := by
  refine PA.mono (pa_cons ha hr (star_cons hs _ _)) fun σ H Q ⟨F, ρ, rel, h⟩ => ⟨F, ρ, rel, ?_⟩
  unfold lCons bnd at h
  cases e1 : m ρ with
  | stuck => rw [e1] at h; exact h
  | err x ρ1 => rw [e1] at h; exact h
  | ok t ρ1 =>
    rw [e1] at h
    intro F0 H1 v g0 x0
    obtain ⟨F1, g1, _, x1⟩ := freeze g0 x0
    refine ⟨F1, ρ1, g1.rel, ?_⟩
    simp only at h
    cases e2 : ms ρ1 with
    | stuck => rw [e2] at h; exact h
    | err x ρ2 => rw [e2] at h; exact fun F2 H2 cc dx g2 ex => h F2 H2 cc dx (g1.trans g2) ex
    | ok ts ρ2 =>
      rw [e2] at h
      intro F2 H2 vs g2 x2
      exact h F2 H2 (v :: vs) (g1.trans g2) (.cons (x1.ext g2.ext) x2)

/-! ### displays -/
def LIM : Nat := 16777216
theorem lim_eq : (sizeLine : Nat) = LIM := sizeLine_eq
def tupM (ms : M (List D)) : M (Bool × D) := bnd ms fun ds ρ => if ds.length ≤ LIM then .ok (false, .tuple ds) ρ else .stuck
def lstM (ms : M (List D)) : M (Bool × D) := bnd ms fun ds ρ => if ds.length ≤ LIM then .ok (true, .list ds) ρ else .stuck
theorem e_tup {es : List Expr} {ms : M (List D)} {x1 : Nat} (ha : PA X es (rL T W ms)) : PE X (.Tuple es x1 pos) (rE T W (tupM ms)) := by
  refine PE.mono (pe_tup ha) fun σ H Q ⟨F, ρ, rel, h⟩ => ⟨F, ρ, rel, ?_⟩
  have h1 := PostE.bndL h
  cases e : ms ρ with
  | stuck => rw [e] at h1; exact h1
  | err x ρ1 => rw [e] at h1; exact h1
  | ok ds ρ1 =>
    rw [e] at h1
    intro F1 H1 vs g1 x1
    obtain ⟨F2, ρ2, ds2, g2, x2, h2⟩ := h1 F1 H1 vs g1 x1
    by_cases hl : ds2.length ≤ LIM
    · rw [if_pos hl] at h2
      refine ⟨by rw [x2.length, lim_eq]; exact hl, fun p hp => ?_⟩
      exact Ans.tup g2.rel.sub (PostE.ans h2 g2.rel) x2 hp
    · rw [if_neg hl] at h2; exact h2.elim
theorem e_lst {es : List Expr} {ms : M (List D)} (ha : PA X es (rL T W ms)) : PE X (.List es pos) (rE T W (lstM ms)) := by
  refine PE.mono (pe_lst ha) fun σ H Q ⟨F, ρ, rel, h⟩ => ⟨F, ρ, rel, ?_⟩
  have h1 := PostE.bndL h
  cases e : ms ρ with
  | stuck => rw [e] at h1; exact h1
  | err x ρ1 => rw [e] at h1; exact h1
  | ok ds ρ1 =>
    rw [e] at h1
    intro F1 H1 vs g1 x1
    obtain ⟨F2, ρ2, ds2, g2, x2, h2⟩ := h1 F1 H1 vs g1 x1
    by_cases hl : ds2.length ≤ LIM
    · rw [if_pos hl] at h2
      refine ⟨by rw [x2.length, lim_eq]; exact hl, fun p hp => ?_⟩
      exact Ans.lst g2.rel.sub (PostE.ans h2 g2.rel) x2 hp
    · rw [if_neg hl] at h2; exact h2.elim

/-! ### operators -/
def addG : D → D → Option (Bool × D)
  | .int i, .int j => some (false, .int (i + j))
  | .str x, .str y => if x.length + y.length ≤ LIM then some (false, .str (x ++ y)) else none
  | .list xs, .list ys => if xs.length + ys.length ≤ LIM then some (true, .list (xs ++ ys)) else none
  | .tuple xs, .tuple ys => if xs.length + ys.length ≤ LIM then some (false, .tuple (xs ++ ys)) else none
  | .int i, .bool b => some (false, .int (i + b2i b))
  | _, _ => none
def subG : D → D → Option (Bool × D)
  | .int i, .int j => some (false, .int (i - j))
  | _, _ => none
/-- x, n times -/
def repS (x : Str) (n : Nat) : Str := ⟨((List.replicate n x.cps.toList).flatten).toArray⟩
def mulG : D → D → Option (Bool × D)
  | .int i, .int j => if i.natAbs < 2 ^ 64 ∨ j.natAbs < 2 ^ 64 then some (false, .int (i * j)) else none
  | .list xs, .int k => if -(2 ^ 62) < k ∧ k < 2 ^ 62 ∧ xs.length * k.toNat ≤ LIM then some (true, .list (List.replicate k.toNat xs).flatten) else none
  | .str x, .int k => if -(2 ^ 62) < k ∧ k < 2 ^ 62 ∧ x.length * k.toNat ≤ LIM then some (false, .str (repS x k.toNat)) else none
  | _, _ => none
def fdivG : D → D → Option (Bool × D)
  | .int i, .int j => if 0 < j ∧ j < 1073741824 then some (false, .int (i / j)) else none
  | _, _ => none
def modG : D → D → Option (Bool × D)
  | .int i, .int j => if 0 < j then some (false, .int (i % j)) else none
  | _, _ => none
def powG : D → D → Option (Bool × D)
  | .int i, .int j => if 0 ≤ j ∧ j ≤ 1000000 ∧ i.natAbs < 2 ^ 64 then some (false, .int (i ^ j.toNat)) else none
  | _, _ => none
def shlG : D → D → Option (Bool × D)
  | .int i, .int j => if 0 ≤ j ∧ j ≤ 1000000 ∧ i.natAbs < 2 ^ 64 then some (false, .int (i * 2 ^ j.toNat)) else none
  | _, _ => none
def shrG : D → D → Option (Bool × D)
  | .int i, .int j => if 0 ≤ j then some (false, .int (i / 2 ^ j.toNat)) else none
  | _, _ => none
def andG : D → D → Option (Bool × D)
  | .int i, .int j => some (false, .int (Builtin.bitAnd i j))
  | _, _ => none
theorem okS_append {x y : Str} (hx : okS x = true) (hy : okS y = true) (h : x.length + y.length ≤ LIM) : okS (x ++ y) = true := by
  have h1 := okS_ok hx
  have h2 := okS_ok hy
  unfold PyData.strOk at h1 h2
  unfold okS PyData.strOk
  rw [Bool.and_eq_true, decide_eq_true_eq]
  have e : (x ++ y).cps = x.cps ++ y.cps := rfl
  rw [e]
  refine ⟨by rw [Array.all_append, h1, h2]; rfl, ?_⟩
  rw [Array.size_append]
  exact h
theorem repS_size (x : Str) (n : Nat) : (repS x n).cps.size = x.cps.size * n := by
  unfold repS
  show (((List.replicate n x.cps.toList).flatten).toArray).size = _
  rw [List.size_toArray]
  induction n with
  | zero => simp
  | succ n ih => rw [List.replicate_succ, List.flatten_cons, List.length_append, ih, Array.length_toList, Nat.mul_succ, Nat.add_comm]
theorem okS_rep {x : Str} {n : Nat} (hx : okS x = true) (h : x.length * n ≤ LIM) : okS (repS x n) = true := by
  have h1 := okS_ok hx
  unfold PyData.strOk at h1
  unfold okS PyData.strOk
  rw [Bool.and_eq_true, decide_eq_true_eq]
  refine ⟨?_, by rw [repS_size]; exact h⟩
  rw [Array.all_eq_true_iff_forall_mem] at h1 ⊢
  intro c hc
  unfold repS at hc
  have hc : c ∈ ((List.replicate n x.cps.toList).flatten) := by simpa using hc
  obtain ⟨l, hl, hm⟩ := List.mem_flatten.mp hc
  have := (List.mem_replicate.mp hl).2
  subst this
  exact h1 c (by simpa using hm)
theorem op_mul_str : OpR X (binaryOp .Mult) (fun x y H Q => ∃ (z : Str) (k : Int), x = .str z ∧ y = .int k ∧ (-(2 ^ 62) < k ∧ k < 2 ^ 62 ∧ z.length * k.toNat ≤ LIM) ∧ Q (.str (repS z k.toNat)) H) := by
  intro pins s σ H x y v u Q I rx ry h
  obtain ⟨z, k, rfl, rfl, ⟨h1, h2, h3⟩, q⟩ := h
  obtain ⟨t, rfl⟩ := rx
  obtain ⟨t', rfl⟩ := ry
  have big : ∀ (n : Int), 1 ≤ n → z.length * n.toNat ≤ LIM → ¬ ((z.length : Int) > (2 ^ 63 - 1) / n) := by
    intro n hn hz
    have e : ((z.length : Int) * n) ≤ 16777216 := by
      have : ((z.length * n.toNat : Nat) : Int) ≤ 16777216 := by unfold LIM at hz; omega
      rw [Int.natCast_mul, Int.toNat_of_nonneg (by omega)] at this
      exact this
    have : (z.length : Int) ≤ (2 ^ 63 - 1) / n := (Int.le_ediv_iff_mul_le (by omega)).mpr (by omega)
    omega
  refine P.mul_str ?_ (fun hk _ => big k (by omega) h3) (fun hk _ => ?_) ?_
  · have a1 : ¬ k < -(2 ^ 63 : Int) := by omega
    have a2 : ¬ k ≥ 2 ^ 63 := by omega
    rw [decide_eq_false a1, decide_eq_false a2]; rfl
  · show decide (z.length * k.toNat > sizeLine) = false
    rw [lim_eq]
    exact decide_eq_false (by omega)
  · by_cases hk : k < 1
    · rw [if_pos hk]
      have e0 : k.toNat = 0 := by omega
      rw [e0] at q
      exact ⟨by decide, ⟨.str _, H, I.tok _, ⟨_, rfl⟩, q⟩⟩
    · rw [if_neg hk]
      by_cases h4 : (k == 1 || z.length == 0) = true
      · rw [if_pos h4]
        have e : repS z k.toNat = z := by
          rw [Bool.or_eq_true, beq_iff_eq, beq_iff_eq] at h4
          unfold repS
          rcases h4 with h4 | h4
          · subst h4; simp
          · have e0 : z.cps = #[] := Array.eq_empty_of_size_eq_zero h4
            have : z = ⟨#[]⟩ := by cases z; simp_all
            rw [this]
            congr 1
            have : ∀ n : Nat, (List.replicate n ([] : List Nat)).flatten = [] := fun n => by induction n with
              | zero => rfl
              | succ n ih => rw [List.replicate_succ, List.flatten_cons, ih]; rfl
            simp [this]
        rw [e] at q
        exact ⟨.str z, H, I, ⟨t, rfl⟩, q⟩
      · rw [if_neg h4]
        have e : ∀ (n : Nat) (acc : Array Nat), ((List.replicate n z.cps).foldl (· ++ ·) acc) = (acc.toList ++ (List.replicate n z.cps.toList).flatten).toArray := by
          intro n
          induction n with
          | zero => intro acc; simp
          | succ n ih => intro acc; rw [List.replicate_succ, List.foldl_cons, ih, List.replicate_succ, List.flatten_cons]; simp
        have e2 : (⟨(List.replicate k.toNat z.cps).foldl (· ++ ·) #[]⟩ : Str) = repS z k.toNat := by
          rw [e]; rfl
        rw [e2]
        refine ⟨?_, ⟨.str _, H, I.tok _, ⟨_, rfl⟩, q⟩⟩
        rw [lim_eq]
        show (repS z k.toNat).cps.size ≤ LIM
        rw [repS_size]
        exact h3

theorem of_some {α : Type} {c : Prop} [Decidable c] {a z : α} (h : (if c then some a else none) = some z) : c ∧ z = a := by
  split at h
  · rename_i q; cases h; exact ⟨q, rfl⟩
  · cases h
def rAddAll (K : PySem.W.Frag) : R2 := fun x y H Q => (∃ i j, x = .int i ∧ y = .int j ∧ Q (.int (i + j)) H) ∨ (∃ i j, x = .str i ∧ y = .str j ∧ i.length + j.length ≤ sizeLine ∧ Q (.str (i ++ j)) H) ∨ rCat x y H Q ∨ rCatA K x y H Q ∨
  (∃ i k, x = .int i ∧ y = .bl k ∧ Q (.int (i + b2i k)) H)
theorem op_addAll (hk : X.K = T.K) : OpR X (binaryOp .Add) (rAddAll T.K) := op_add.or (op_add_str.or (op_cat.or ((hk ▸ op_catA).or op_add_ib)))
theorem snd_add {K : PySem.W.Frag} : Snd2 K (rAddAll K) addG := by
  intro F H x y d e z Q s rx ry hg an
  unfold addG at hg
  split at hg
  · cases hg
    cases rx.int; cases ry.int
    exact .inl ⟨_, _, rfl, rfl, an.here s (.int _)⟩
  · obtain ⟨hl, rfl⟩ := of_some hg
    obtain ⟨rfl, o1⟩ := rx.str
    obtain ⟨rfl, o2⟩ := ry.str
    exact .inr (.inl ⟨_, _, rfl, rfl, by rw [lim_eq]; exact hl, an.here s (.str _ (okS_append o1 o2 hl))⟩)
  · obtain ⟨hl, rfl⟩ := of_some hg
    obtain ⟨a, vs, rfl, h1, t1⟩ := rx.list s
    obtain ⟨b, ws, rfl, h2, t2⟩ := ry.list s
    exact .inr (.inr (.inl ⟨_, _, _, _, rfl, rfl, h1, h2, by rw [t1.length, t2.length, lim_eq]; exact hl, fun p hp => Ans.lst s an (t1.append t2) hp⟩))
  · obtain ⟨hl, rfl⟩ := of_some hg
    obtain ⟨a, vs, rfl, h1, t1⟩ := rx.tuple s
    obtain ⟨b, ws, rfl, h2, t2⟩ := ry.tuple s
    refine .inr (.inr (.inr (.inl ⟨_, _, _, _, rfl, rfl, h1, h2, by rw [t1.length, t2.length, lim_eq]; exact hl, fun e => ?_, fun e e' => ?_, fun _ _ p hp => Ans.tup s an (t1.append t2) hp⟩)))
    · subst e
      cases t1
      cases ry with
      | enc en => exact an.here s en
      | own _ t => cases t
    · subst e'
      cases t2
      rw [List.append_nil] at an
      cases rx with
      | enc en => exact an.here s en
      | own _ t => cases t
  · cases hg
    cases rx.int; cases ry.bool
    exact .inr (.inr (.inr (.inr ⟨_, _, rfl, rfl, an.here s (.int _)⟩)))
  · cases hg
variable {a b : Expr} {ma mb mc : M Tok}
theorem e_add (c : Cok G T W k N sc fnc X) (ha : PE X a (rO T W ma)) (hb : PE X b (rO T W mb)) : PE X (.BinOp a .Add b pos) (rE T W (op2 ma mb addG)) :=
  PE.mono (pe_op (op_addAll c.hK) ha hb) fun _ _ _ => op2_read snd_add
theorem snd_sub {K : PySem.W.Frag} : Snd2 K (rI0 fun i j => .int (i - j)) subG := by
  intro F H x y d e z Q s rx ry hg an
  unfold subG at hg
  split at hg
  · cases hg
    cases rx.int; cases ry.int
    exact ⟨_, _, rfl, rfl, an.here s (.int _)⟩
  · cases hg
theorem e_sub (ha : PE X a (rO T W ma)) (hb : PE X b (rO T W mb)) : PE X (.BinOp a .Sub b pos) (rE T W (op2 ma mb subG)) := PE.mono (pe_op op_sub ha hb) fun _ _ _ => op2_read snd_sub
def rMulAll : R2 := fun x y H Q => rI CMul (fun i j => .int (i * j)) x y H Q ∨ rRep x y H Q ∨ ∃ (z : Str) (k : Int), x = .str z ∧ y = .int k ∧ (-(2 ^ 62) < k ∧ k < 2 ^ 62 ∧ z.length * k.toNat ≤ LIM) ∧ Q (.str (repS z k.toNat)) H
theorem encL_rep {K : PySem.W.Frag} {F : Hp} {vs : List V} {ds : List D} (h : EncL K F vs ds) : ∀ n, EncL K F (List.replicate n vs).flatten (List.replicate n ds).flatten
  | 0 => .nil
  | n + 1 => by rw [List.replicate_succ, List.replicate_succ, List.flatten_cons, List.flatten_cons]; exact h.append (encL_rep h n)
theorem snd_mul {K : PySem.W.Frag} : Snd2 K rMulAll mulG := by
  intro F H x y d e z Q s rx ry hg an
  unfold mulG at hg
  split at hg
  · obtain ⟨hl, rfl⟩ := of_some hg
    cases rx.int; cases ry.int
    refine .inl ⟨_, _, rfl, rfl, ?_, an.here s (.int _)⟩
    rcases hl with hl | hl
    · exact .inl (by omega)
    · exact .inr (by omega)
  · obtain ⟨hl, rfl⟩ := of_some hg
    obtain ⟨a, vs, rfl, h1, t1⟩ := rx.list s
    cases ry.int
    exact .inr (.inl ⟨_, _, _, rfl, rfl, h1, by omega, by omega, by rw [t1.length, lim_eq]; exact hl.2.2, fun p hp => Ans.lst s an (encL_rep t1 _) hp⟩)
  · obtain ⟨hl, rfl⟩ := of_some hg
    obtain ⟨rfl, o1⟩ := rx.str
    cases ry.int
    exact .inr (.inr ⟨_, _, rfl, rfl, hl, an.here s (.str _ (okS_rep o1 hl.2.2))⟩)
  · cases hg
theorem e_mul (ha : PE X a (rO T W ma)) (hb : PE X b (rO T W mb)) : PE X (.BinOp a .Mult b pos) (rE T W (op2 ma mb mulG)) := PE.mono (pe_op (op_mul.or (op_rep.or op_mul_str)) ha hb) fun _ _ _ => op2_read snd_mul
theorem snd_fdiv {K : PySem.W.Frag} : Snd2 K (rI CDiv fun i j => .int (i / j)) fdivG := by
  intro F H x y d e z Q s rx ry hg an
  unfold fdivG at hg
  split at hg
  · obtain ⟨hl, rfl⟩ := of_some hg
    cases rx.int; cases ry.int
    exact ⟨_, _, rfl, rfl, hl, an.here s (.int _)⟩
  · cases hg
theorem e_fdiv (ha : PE X a (rO T W ma)) (hb : PE X b (rO T W mb)) : PE X (.BinOp a .FloorDiv b pos) (rE T W (op2 ma mb fdivG)) := PE.mono (pe_op op_fdiv ha hb) fun _ _ _ => op2_read snd_fdiv
theorem snd_mod {K : PySem.W.Frag} : Snd2 K (rI (fun _ j => 0 < j) fun i j => .int (i % j)) modG := by
  intro F H x y d e z Q s rx ry hg an
  unfold modG at hg
  split at hg
  · obtain ⟨hl, rfl⟩ := of_some hg
    cases rx.int; cases ry.int
    exact ⟨_, _, rfl, rfl, hl, an.here s (.int _)⟩
  · cases hg
theorem e_mod (ha : PE X a (rO T W ma)) (hb : PE X b (rO T W mb)) : PE X (.BinOp a .Mod b pos) (rE T W (op2 ma mb modG)) := PE.mono (pe_op op_mod ha hb) fun _ _ _ => op2_read snd_mod
theorem snd_pow {K : PySem.W.Frag} : Snd2 K (rI CPow fun i j => .int (i ^ j.toNat)) powG := by
  intro F H x y d e z Q s rx ry hg an
  unfold powG at hg
  split at hg
  · obtain ⟨hl, rfl⟩ := of_some hg
    cases rx.int; cases ry.int
    exact ⟨_, _, rfl, rfl, hl, an.here s (.int _)⟩
  · cases hg
theorem e_pow (ha : PE X a (rO T W ma)) (hb : PE X b (rO T W mb)) : PE X (.BinOp a .Pow b pos) (rE T W (op2 ma mb powG)) := PE.mono (pe_op op_pow ha hb) fun _ _ _ => op2_read snd_pow
theorem snd_shl {K : PySem.W.Frag} : Snd2 K (rI CPow fun i j => .int (i * 2 ^ j.toNat)) shlG := by
  intro F H x y d e z Q s rx ry hg an
  unfold shlG at hg
  split at hg
  · obtain ⟨hl, rfl⟩ := of_some hg
    cases rx.int; cases ry.int
    exact ⟨_, _, rfl, rfl, hl, an.here s (.int _)⟩
  · cases hg
theorem e_shl (ha : PE X a (rO T W ma)) (hb : PE X b (rO T W mb)) : PE X (.BinOp a .LShift b pos) (rE T W (op2 ma mb shlG)) := PE.mono (pe_op op_shl ha hb) fun _ _ _ => op2_read snd_shl
theorem snd_shr {K : PySem.W.Frag} : Snd2 K (rI (fun _ j => 0 ≤ j) fun i j => .int (i / 2 ^ j.toNat)) shrG := by
  intro F H x y d e z Q s rx ry hg an
  unfold shrG at hg
  split at hg
  · obtain ⟨hl, rfl⟩ := of_some hg
    cases rx.int; cases ry.int
    exact ⟨_, _, rfl, rfl, hl, an.here s (.int _)⟩
  · cases hg
theorem e_shr (ha : PE X a (rO T W ma)) (hb : PE X b (rO T W mb)) : PE X (.BinOp a .RShift b pos) (rE T W (op2 ma mb shrG)) := PE.mono (pe_op op_shr ha hb) fun _ _ _ => op2_read snd_shr
theorem snd_and {K : PySem.W.Frag} : Snd2 K (rI0 fun i j => .int (Builtin.bitAnd i j)) andG := by
  intro F H x y d e z Q s rx ry hg an
  unfold andG at hg
  split at hg
  · cases hg
    cases rx.int; cases ry.int
    exact ⟨_, _, rfl, rfl, an.here s (.int _)⟩
  · cases hg
theorem e_band (ha : PE X a (rO T W ma)) (hb : PE X b (rO T W mb)) : PE X (.BinOp a .BitAnd b pos) (rE T W (op2 ma mb andG)) := PE.mono (pe_op op_and ha hb) fun _ _ _ => op2_read snd_and
def negG : D → Option (Bool × D)
  | .int i => some (false, .int (-i))
  | _ => none
theorem e_neg (ha : PE X a (rO T W ma)) : PE X (.UnaryOp .USub a pos) (rE T W (op1 ma negG)) := PE.mono (pe_un un_neg ha) fun _ _ _ => op1_read fun F H x d z Q s rx hg an => by
  unfold negG at hg
  split at hg
  · cases hg
    cases rx.int
    exact ⟨_, rfl, an.here s (.int _)⟩
  · cases hg
end
end PK
set_option maxHeartbeats 1000000
namespace PK
open PySem PySem.Spec PyProof.Rows L2

/-! ### data without dicts, not deeper than n -/
mutual
def flD : D → Nat → Bool
  | .list xs, 0 => false
  | .list xs, n + 1 => flA xs n
  | .tuple xs, 0 => false
  | .tuple xs, n + 1 => flA xs n
  | .dict _, _ => false
  | .none, _ => true
  | .bool _, _ => true
  | .int _, _ => true
  | .str _, _ => true
def flA : List D → Nat → Bool
  | [], _ => true
  | x :: xs, n => flD x n && flA xs n
end
mutual
theorem flD_depth : ∀ (d : D) (n : Nat), flD d n = true → d.depth ≤ n
  | .list xs, 0, h => by simp [flD] at h
  | .list xs, n + 1, h => by
    have := flA_depth xs n (by simpa [flD] using h)
    show PyData.depthAll xs + 1 ≤ n + 1
    omega
  | .tuple xs, 0, h => by simp [flD] at h
  | .tuple xs, n + 1, h => by
    have := flA_depth xs n (by simpa [flD] using h)
    show PyData.depthAll xs + 1 ≤ n + 1
    omega
  | .dict _, _, h => by simp [flD] at h
  | .none, _, _ => Nat.zero_le _
  | .bool _, _, _ => Nat.zero_le _
  | .int _, _, _ => Nat.zero_le _
  | .str _, _, _ => Nat.zero_le _
theorem flA_depth : ∀ (xs : List D) (n : Nat), flA xs n = true → PyData.depthAll xs ≤ n
  | [], _, _ => Nat.zero_le _
  | x :: xs, n, h => by
    have h' : flD x n = true ∧ flA xs n = true := by simpa [flA] using h
    have h1 := flD_depth x n h'.1
    have h2 := flA_depth xs n h'.2
    show max x.depth (PyData.depthAll xs) ≤ n
    omega
end
mutual
theorem enc_dp {K : PySem.W.Frag} {F H : Hp} (s : Ext F H) : ∀ {v : V} (d : D) (n : Nat), Enc K F v d → flD d n = true → Dp K H v d ∧ d.canLay0 = true
  | _, _, _, .non, _ => ⟨.non, rfl⟩
  | _, _, _, .bl b, _ => ⟨.bl b, rfl⟩
  | _, _, _, .int i, _ => ⟨.int i, rfl⟩
  | _, _, _, .str x h, _ => ⟨.str x, okS_ok h⟩
  | _, .list ds, 0, .lst h t, f => by simp [flD] at f
  | _, .list ds, n + 1, .lst h t, f => by
    have q := encL_dp s ds n t (by simpa [flD] using f)
    exact ⟨.lst (SqL.of (s _ _ h)) q.1, q.2⟩
  | _, .tuple ds, 0, .tup h t, f => by simp [flD] at f
  | _, .tuple ds, n + 1, .tup h t, f => by
    have q := encL_dp s ds n t (by simpa [flD] using f)
    exact ⟨.tup (SqT.ext s h) q.1, q.2⟩
  | _, _, _, .dic h t, f => by simp [flD] at f
  | _, _, _, .scr h, f => by simp [flD] at f
theorem encL_dp {K : PySem.W.Frag} {F H : Hp} (s : Ext F H) : ∀ {vs : List V} (ds : List D) (n : Nat), EncL K F vs ds → flA ds n = true → DpAll K H vs ds ∧ PyData.canLayAll0 ds = true
  | _, _, _, .nil, _ => ⟨.nil, rfl⟩
  | _, _ :: ds, n, .cons (d := d) h t, f => by
    have f' : flD d n = true ∧ flA ds n = true := by simpa [flA] using f
    have q1 := enc_dp s d n h f'.1
    have q2 := encL_dp s ds n t f'.2
    exact ⟨.cons q1.1 q2.1, by simp [PyData.canLayAll0, q1.2, q2.2]⟩
end
theorem rd_dp {K : PySem.W.Frag} {F H : Hp} (s : Ext F H) {v : V} {d : D} {n : Nat} (h : RdV K F H v d) (f : flD d n = true) : Dp K H v d ∧ d.canLay0 = true := by
  cases h with
  | enc h => exact enc_dp s d n h f
  | own h t =>
    cases t with
    | dic t => simp [flD] at f
    | @lst vs ds t =>
      cases n with
      | zero => simp [flD] at f
      | succ n =>
        have q := encL_dp s ds n t (by simpa [flD] using f)
        exact ⟨.lst (SqL.of h) q.1, q.2⟩
theorem shaped_of {d : D} (h : d.canLay0 = true) (f : flD d 64 = true) : SeqAt.shaped d = true := by
  unfold SeqAt.shaped
  rw [h, decide_eq_true (flD_depth d 64 f)]; rfl

/-! ### dicts by their keys -/
def keyEq : D → D → Bool
  | .int i, .int j => decide (i = j)
  | .str x, .str y => decide (x = y)
  | _, _ => false
def isKey : D → Bool
  | .int _ => true
  | .str _ => true
  | _ => false
def dlook : List (D × D) → D → Option D
  | [], _ => none
  | (k', v) :: r, k => if keyEq k' k then some v else dlook r k
def dhas (ds : List (D × D)) (k : D) : Bool := ds.any fun p => keyEq p.1 k
def dput (ds : List (D × D)) (k v : D) : List (D × D) := if dhas ds k then ds.map fun p => if keyEq p.1 k then (p.1, v) else p else ds ++ [(k, v)]
theorem keyEq_D (a b : Key) : keyEq (keyD a) (keyD b) = decide (a = b) := by
  cases a <;> cases b <;> simp [keyEq, keyD]
theorem isKey_D {d : D} (h : isKey d = true) : ∃ k : Key, d = keyD k := by
  cases d <;> first | cases h | skip
  · exact ⟨.inl _, rfl⟩
  · exact ⟨.inr _, rfl⟩
theorem enc_key {K : PySem.W.Frag} {F : Hp} {v : V} {k : Key} (h : Enc K F v (keyD k)) : v = kV k := by
  cases k <;> (cases h; rfl)
inductive RelOD (K : PySem.W.Frag) (F : Hp) : Option V → Option D → Prop
  | none : RelOD K F none none
  | some {v : V} {d : D} : Enc K F v d → RelOD K F (some v) (some d)
theorem EncK.look {K : PySem.W.Frag} {F : Hp} (k : Key) : ∀ {kvs : List (Key × V)} {ds : List (D × D)}, EncK K F kvs ds → RelOD K F (valV kvs k) (dlook ds (keyD k))
  | _, _, .nil => .none
  | _, _, .cons (k := k') hk h t => by
    by_cases e : k' = k
    · rw [valV_pos e]
      unfold dlook
      rw [if_pos (by rw [keyEq_D]; exact decide_eq_true e)]
      exact .some h
    · rw [valV_neg e]
      unfold dlook
      rw [if_neg (by rw [keyEq_D]; simpa using e)]
      exact EncK.look k t
theorem dlook_has : ∀ (ds : List (D × D)) (k : D), (dlook ds k).isSome = dhas ds k
  | [], _ => rfl
  | (k', v) :: r, k => by
    unfold dlook
    have ih := dlook_has r k
    by_cases h : keyEq k' k = true
    · rw [if_pos h]; simp [dhas, h]
    · rw [if_neg h, ih]; simp [dhas, h]
theorem EncK.any {K : PySem.W.Frag} {F : Hp} (k : Key) : ∀ {kvs : List (Key × V)} {ds : List (D × D)}, EncK K F kvs ds → (kvs.any fun kv => decide (kv.1 = k)) = dhas ds (keyD k)
  | _, _, .nil => rfl
  | _, _, .cons (k := k') hk h t => by
    have ih := EncK.any k t
    unfold dhas at ih ⊢
    rw [List.any_cons, List.any_cons, ih, keyEq_D]
theorem EncK.append {K : PySem.W.Frag} {F : Hp} : ∀ {a b : List (Key × V)} {ds es : List (D × D)}, EncK K F a ds → EncK K F b es → EncK K F (a ++ b) (ds ++ es)
  | _, _, _, _, .nil, h => h
  | _, _, _, _, .cons k a t, h => .cons k a (EncK.append t h)
theorem EncK.repl {K : PySem.W.Frag} {F : Hp} {k : Key} {v : V} {d : D} (hv : Enc K F v d) : ∀ {kvs : List (Key × V)} {ds : List (D × D)}, EncK K F kvs ds →
    EncK K F (kvs.map fun kv => if kv.1 = k then (kv.1, v) else kv) (ds.map fun p => if keyEq p.1 (keyD k) then (p.1, d) else p)
  | _, _, .nil => .nil
  | _, _, .cons (k := k') hk h t => by
    rw [List.map_cons, List.map_cons]
    by_cases e : k' = k
    · rw [if_pos e, if_pos (by rw [keyEq_D]; exact decide_eq_true e)]
      exact .cons hk hv (EncK.repl hv t)
    · rw [if_neg e, if_neg (by rw [keyEq_D]; simpa using e)]
      exact .cons hk h (EncK.repl hv t)
theorem EncK.put {K : PySem.W.Frag} {F : Hp} {k : Key} {v : V} {d : D} {kvs : List (Key × V)} {ds : List (D × D)} (h : EncK K F kvs ds) (hk : Enc K F (kV k) (keyD k)) (hv : Enc K F v d) : EncK K F (putK kvs k v) (dput ds (keyD k) d) := by
  unfold putK dput
  rw [h.any k]
  by_cases e : dhas ds (keyD k) = true
  · rw [if_pos e, if_pos e]; exact h.repl hv
  · rw [if_neg e, if_neg e]; exact h.append (.cons hk hv .nil)

/-! ### == -/
def flK (ds : List (D × D)) : Bool := isDic ds && ds.all fun p => flD p.2 60
def eqK (ds es : List (D × D)) : Bool := ds.length == es.length && ds.all fun p => match dlook es p.1 with
  | some e => PyData.eqv p.2 e
  | none => false
def eqG : D → D → Option (Bool × D)
  | .dict ds, .dict es => if flK ds && flK es then some (false, .bool (eqK ds es)) else none
  | d, e => if flD d 64 && flD e 64 then some (false, .bool (PyData.eqv d e)) else none
def neG (d e : D) : Option (Bool × D) := match eqG d e with
  | some (_, .bool b) => some (false, .bool (!b))
  | _ => none
section
variable {G : G0} {T : XT} {W : WX} {k : Nat} {N : List Str} {sc : Scope} {fnc : Str → Bool} {X : Cx} {pos : Pos}
def rEqK (K : PySem.W.Frag) (neg : Bool) : R2 := fun x y H Q => ∃ F a b ka kb ds es, Ext F H ∧ x = .ref a ∧ y = .ref b ∧ Rd H a (.dK ka) ∧ Rd H b (.dK kb) ∧ EncK K F ka ds ∧ EncK K F kb es ∧ flK ds = true ∧ flK es = true ∧ Q (.bl (if neg then !eqK ds es else eqK ds es)) H
theorem kv_look {kvs : List (Key × V)} {vs : List (Key × Value)} (r : KV kvs vs) (k : Key) : RelO (valV kvs k) (valueAt vs k) := r.val k
theorem flK_all {ds : List (D × D)} (h : flK ds = true) : ∀ p ∈ ds, flD p.2 60 = true := by
  unfold flK at h
  rw [Bool.and_eq_true, List.all_eq_true] at h
  exact h.2
theorem dlook_mem : ∀ {ds : List (D × D)} {k d : D}, dlook ds k = some d → ∃ p ∈ ds, p.2 = d
  | (k', v) :: r, k, d, h => by
    unfold dlook at h
    split at h
    · cases h; exact ⟨_, List.mem_cons_self, rfl⟩
    · obtain ⟨p, hp, e⟩ := dlook_mem h
      exact ⟨p, List.mem_cons_of_mem _ hp, e⟩
theorem hits_of {pins : List (Addr × Obj)} {σ : St} {H F : Hp} {s : Shared} (I : Inv X pins σ H s) (se : Ext F H) (A : Around) (hu : A.units + 64 < cLine) {kb : List (Key × V)} {vb : List (Key × Value)} (rb : KV kb vb) {es : List (D × D)} (eb : EncK X.K F kb es) (fe : ∀ p ∈ es, flD p.2 60 = true) :
    ∀ {ka : List (Key × V)} {ds : List (D × D)} {va : List (Key × Value)}, EncK X.K F ka ds → KV ka va → (∀ p ∈ ds, flD p.2 60 = true) →
      PySem.W.KeqHitsIn X.prog X.w A s vb va (ds.all fun p => match dlook es p.1 with | some e => PyData.eqv p.2 e | none => false)
  | _, _, _, .nil, ra, _ => by cases ra; exact .nil
  | _, _, _, .cons (k := k) (v := v) (d := d) (ds := ds) hk h t, ra, fd => by
    cases ra with
    | @cons _ q _ va' r1 r2 =>
      obtain ⟨k', u⟩ := q
      obtain ⟨e1, rv⟩ := r1
      have e1 : k = k' := e1
      subst e1
      have ih := hits_of I se A hu rb eb fe t r2 fun p hp => fd p (List.mem_cons_of_mem _ hp)
      rw [List.all_cons]
      have lk := eb.look k
      have lv := rb.val k
      show PySem.W.KeqHitsIn X.prog X.w A s vb ((k, u) :: va') ((match dlook es (keyD k) with | some e => PyData.eqv d e | none => false) && _)
      cases e2 : dlook es (keyD k) with
      | none =>
        rw [e2] at lk
        cases e3 : valV kb k with
        | some z => rw [e3] at lk; cases lk
        | none =>
          rw [e3] at lv
          cases e4 : valueAt vb k with
          | some z => rw [e4] at lv; exact lv.elim
          | none => rw [Bool.false_and]; exact .miss e4
      | some e =>
        rw [e2] at lk
        cases e3 : valV kb k with
        | none => rw [e3] at lk; cases lk
        | some z =>
          rw [e3] at lk lv
          cases lk with
          | some en =>
            cases e4 : valueAt vb k with
            | none => rw [e4] at lv; exact lv.elim
            | some y =>
              rw [e4] at lv
              have ry : RelV z y := lv
              obtain ⟨p, hp, ep⟩ := dlook_mem e2
              have f1 := fd (keyD k, d) List.mem_cons_self
              have f2 : flD e 60 = true := by rw [← ep]; exact fe p hp
              obtain ⟨d1, c1⟩ := enc_dp se d 60 h f1
              obtain ⟨d2, c2⟩ := enc_dp se e 60 en f2
              obtain ⟨as, q1⟩ := Dp.reads I d v u d1 rv
              obtain ⟨bs, q2⟩ := Dp.reads I e z y d2 ry
              refine .hit e4 ?_ ih
              refine (SeqAt.eqAt_reads d e A s u y as bs q1 q2 c1 c2 ?_).inModel _ _
              have := flD_depth d 60 f1
              have := Nat.min_le_left d.depth e.depth
              omega
theorem op_eqK (hu : X.A.units + 80 < cLine) : OpR X (compareOp .Eq) (rEqK X.K false) := by
  intro pins s σ H x y v u Q I rx ry h
  obtain ⟨F, a, b, ka, kb, ds, es, se, rfl, rfl, ha, hb, ea, eb, fa, fb, q⟩ := h
  cases rx
  cases ry
  obtain ⟨_, ya, va, ra, da⟩ := dk_rd I.hok ha
  obtain ⟨_, yb, vb, rb, db⟩ := dk_rd I.hok hb
  have l1 : va.length = ds.length := by rw [← ra.length, ea.length]
  have l2 : vb.length = es.length := by rw [← rb.length, eb.length]
  refine PySem.W.keq_eqIn ya yb da db (by omega) (fun _ => hits_of I se X.A.in1 (by show X.A.units + 1 + 64 < cLine; omega) rb eb (flK_all fb) ea ra (flK_all fa)) (fin_bl I q ?_)
  rw [l1, l2]; rfl
theorem keq_neIn {prog : Program} {w : World} {A : Around} {E : Value → Shared → Prop} {s : Shared} {knd : KeyKind prog w Key} {a b : Addr} {ka kb : List (Key × Value)} {r : Bool} {Q : Value → Shared → Prop} (ha : (a == sysModules) = false) (hb : (b == sysModules) = false)
    (da : s.heap.DictOf knd a ka) (db : s.heap.DictOf knd b kb) (hu : A.units < cLine) (hits : ka.length = kb.length → PySem.W.KeqHitsIn prog w A.in1 s kb ka r) (h : Q (.bool (!(ka.length == kb.length && r))) s) :
    wpAny (model prog w) A (compareOp .NotEq (.ref a) (.ref b)) Q E s := by
  refine wpAny_richCompare_same_room (op := .NotEq) da.typeIs db.typeIs PySem.F.slot_dict_ne (wpAny_call_entry PySem.F.slot_dict_ne da.typeIs PySem.F.entry_dict_ne ?_ (PySem.F.args_dict_ne_2 _ _)) hu
  show wpAny _ _ (Builtin.Dict.dictSlotArgs "__ne__" ⟨[.ref a, .ref b], []⟩ >>= _) _ _ s
  refine wpAny_bind ?_
  unfold Builtin.Dict.dictSlotArgs
  refine wpAny_bind (wpAny_notOrdered_dict da.typeIs ?_)
  show wpAny _ _ (pure (Value.ref a, Value.ref b)) _ _ s
  refine wpAny_pure ?_
  refine wpAny_bind (wpAny_isInstance (T := "dict") db.typeIs PySem.F.sub_dict_dict ?_)
  simp only [Bool.not_true, Bool.false_eq_true, if_false]
  refine wpAny_bind (wpAny_pure (wpAny_bind (wpAny_pure ?_)))
  refine wpAny_bind (PySem.W.keq_samePairsIn ha hb da db hits ?_)
  refine wpAny_pure ⟨_, rfl, ?_, ?_⟩
  · exact fun x => nomatch x
  · simpa using h
theorem op_neK (hu : X.A.units + 80 < cLine) : OpR X (compareOp .NotEq) (rEqK X.K true) := by
  intro pins s σ H x y v u Q I rx ry h
  obtain ⟨F, a, b, ka, kb, ds, es, se, rfl, rfl, ha, hb, ea, eb, fa, fb, q⟩ := h
  cases rx
  cases ry
  obtain ⟨_, ya, va, ra, da⟩ := dk_rd I.hok ha
  obtain ⟨_, yb, vb, rb, db⟩ := dk_rd I.hok hb
  have l1 : va.length = ds.length := by rw [← ra.length, ea.length]
  have l2 : vb.length = es.length := by rw [← rb.length, eb.length]
  refine keq_neIn ya yb da db (by omega) (fun _ => hits_of I se X.A.in1 (by show X.A.units + 1 + 64 < cLine; omega) rb eb (flK_all fb) ea ra (flK_all fa)) (fin_bl I q ?_)
  rw [l1, l2]; rfl
end
end PK
set_option maxHeartbeats 1000000
namespace PK
open PySem PySem.Spec PyProof.Rows L2
section
variable {G : G0} {T : XT} {W : WX} {k : Nat} {N : List Str} {sc : Scope} {fnc : Str → Bool} {X : Cx} {pos : Pos} {a b e : Expr} {ma mb mc : M Tok}
theorem Cok.u64 (c : Cok G T W k N sc fnc X) : X.A.units + 80 < cLine := by have := c.room.un; omega
/-! ### comparisons by their operators -/
inductive CmpR (X : Cx) (T : XT) (op : CmpOp) (g : D → D → Option (Bool × D)) : Prop
  | mk (r : R2) : OpR X (compareOp op) r → Snd2 T.K r g → CmpR X T op g
/-- not a written set -/
def noSet : Expr → Bool
  | .Set .. => false
  | _ => true
theorem behind_of {op : CmpOp} {e : Expr} (h : noSet e = true) : behindInMarks op e = false := by
  cases e <;> first | rfl | cases h
theorem e_cmp {op : CmpOp} {g : D → D → Option (Bool × D)} (h : CmpR X T op g) (ha : PE X a (rO T W ma)) (hb : PE X b (rO T W mb)) (hm : noSet b = true := by rfl) : PE X (.Compare a [op] [b] pos) (rE T W (op2 ma mb g)) := by
  obtain ⟨r, ho, s⟩ := h
  exact PE.mono (pe_cmpR ho ha hb (behind_of hm)) fun _ _ _ => op2_read s
/-- a test whose value is True or False -/
def tstB (m : M (Bool × D)) : M Bool := bnd m fun r ρ => match r with
  | (false, .bool b) => .ok b ρ
  | _ => .stuck
theorem PostT.later {F F1 H H1 : Hp} {σ : St} {ρ ρ1 : En} {r : Res Bool} {Q : Bool → Hp → Prop} (h : PostT T W F σ H ρ r Q) (g : GoE T.K F σ H ρ F1 H1 ρ1) : PostT T W F1 σ H1 ρ1 r Q := by
  cases r with
  | ok b ρ2 => exact fun F2 H2 g2 => h F2 H2 (g.trans g2)
  | err x ρ2 => exact fun F2 H2 c dx g2 x => h F2 H2 c dx (g.trans g2) x
  | stuck => exact h
theorem rT_ofB {m : M (Bool × D)} {σ : St} {H : Hp} {Q : Bool → Hp → Prop} (h : rT T W (tstB m) σ H Q) : rE T W m σ H fun x H' => ∃ k, x = .bl k ∧ Q k H' := by
  obtain ⟨F, ρ, rel, h⟩ := h
  refine ⟨F, ρ, rel, ?_⟩
  unfold tstB bnd at h
  cases e1 : m ρ with
  | stuck => rw [e1] at h; exact h
  | err x ρ1 => rw [e1] at h; exact h
  | ok r ρ1 =>
    rw [e1] at h
    obtain ⟨fl, d⟩ := r
    intro F1 H1 v g x
    cases fl with
    | true => exact h.elim
    | false =>
      cases d with
      | bool b =>
        cases x with
        | shr en => cases en; exact ⟨b, rfl, h F1 H1 g⟩
      | _ => exact h.elim
theorem t_cmp {op : CmpOp} {g : D → D → Option (Bool × D)} (h : CmpR X T op g) (ha : PE X a (rO T W ma)) (hb : PE X b (rO T W mb)) (hm : noSet b = true := by rfl) : PT X (.Compare a [op] [b] pos) (rT T W (tstB (op2 ma mb g))) := by
  obtain ⟨r, ho, s⟩ := h
  refine PT.mono (pt_cmpR ho ha hb (behind_of hm)) fun σ H Q h => ?_
  exact op2_read s (rT_ofB h)
/-- a op b op' c -/
def chn (ma mb mc : M Tok) (g g' : D → D → Option (Bool × D)) : M (Bool × D) := bnd ma fun t => bnd mb fun u => bnd (fun ρ => ans ((rsv ρ t).bind fun x => (rsv ρ u).bind fun y => g x y) ρ) fun r => match r with
  | (false, .bool true) => bnd mc fun w ρ => ans ((rsv ρ u).bind fun x => (rsv ρ w).bind fun y => g' x y) ρ
  | (false, .bool false) => fun ρ => .ok (false, .bool false) ρ
  | _ => fun _ => .stuck
theorem marks_of {op op' : CmpOp} {b c : Expr} (h : noSet c = true) : lastMarks [op, op'] [b, c] = false := by
  show lastMarks [op'] [c] = false
  exact behind_of h
theorem chn_read {r r' : R2} {g g' : D → D → Option (Bool × D)} {σ : St} {H : Hp} {Q : VK} (s : Snd2 T.K r g) (s' : Snd2 T.K r' g') (h : rE T W (chn ma mb mc g g') σ H Q) : tChain r r' (rO T W ma) (rO T W mb) (rO T W mc) σ H Q := by
  obtain ⟨F, ρ, rel, h⟩ := h
  refine ⟨F, ρ, rel, ?_⟩
  have h1 := PostE.bndO h
  cases e : ma ρ with
  | stuck => rw [e] at h1; exact h1
  | err x ρ1 => rw [e] at h1; exact h1
  | ok t ρ1 =>
    rw [e] at h1
    intro F1 H1 v g1 x1
    obtain ⟨F2, ρ2, t2, g2, x2, h2⟩ := h1 F1 H1 v g1 x1
    refine ⟨F2, ρ2, g2.rel, ?_⟩
    have h3 := PostE.bndO h2
    cases e' : mb ρ2 with
    | stuck => rw [e'] at h3; exact h3
    | err x ρ1 => rw [e'] at h3; exact h3
    | ok u ρ3 =>
      rw [e'] at h3
      intro F3 H3 w g3 x3
      obtain ⟨F4, ρ4, t4, g4, x4, h4⟩ := h3 F3 H3 w g3 x3
      unfold bnd ans at h4
      cases q : rsv ρ4 t2 with
      | none => simp [q] at h4; exact h4.elim
      | some d =>
        cases q' : rsv ρ4 t4 with
        | none => simp [q, q'] at h4; exact h4.elim
        | some d' =>
          simp only [q, q', Option.bind_some] at h4
          cases eg : g d d' with
          | none => simp only [eg] at h4; exact h4.elim
          | some z =>
            simp only [eg] at h4
            refine s _ _ _ _ _ _ _ _ g4.rel.sub ((x2.go g4).read g4.rel q) (x4.read g4.rel q') eg fun F5 H5 v5 al n5 => ?_
            have g5 := Al.goE g4.rel al
            obtain ⟨fl, dz⟩ := z
            cases fl with
            | true => exact h4.elim
            | false =>
              cases dz with
              | bool bb =>
                have vb : v5 = .bl bb := by
                  cases n5 with
                  | shr en => cases en; rfl
                cases bb with
                | false =>
                  refine ⟨false, vb, ?_⟩
                  rw [if_neg Bool.false_ne_true]
                  exact h4 F5 H5 (.bl false) g5 (.shr (.bl false))
                | true =>
                  refine ⟨true, vb, ?_⟩
                  rw [if_pos rfl]
                  refine ⟨F5, ρ4, g5.rel, ?_⟩
                  have h6 := PostE.bndO (PostE.later h4 g5)
                  cases e6 : mc ρ4 with
                  | stuck => rw [e6] at h6; exact h6
                  | err x ρ6 => rw [e6] at h6; exact h6
                  | ok z6 ρ6 =>
                    rw [e6] at h6
                    intro F7 H7 v7 g7 x7
                    obtain ⟨F8, ρ8, t8, g8, x8, h8⟩ := h6 F7 H7 v7 g7 x7
                    obtain ⟨z, ez, an⟩ := ans_some g8.rel h8
                    cases q8 : rsv ρ8 t4 with
                    | none => rw [q8] at ez; cases ez
                    | some d8 =>
                      rw [q8] at ez
                      cases q9 : rsv ρ8 t8 with
                      | none => simp [q9] at ez
                      | some d9 =>
                        simp only [q9, Option.bind_some] at ez
                        exact s' _ _ _ _ _ _ _ _ g8.rel.sub (((x4.go g5).go g8).read g8.rel q8) (x8.read g8.rel q9) ez an
              | _ => exact h4.elim
variable {c0 : Expr}
theorem e_chain {op op' : CmpOp} {g g' : D → D → Option (Bool × D)} (h : CmpR X T op g) (h' : CmpR X T op' g') (ha : PE X a (rO T W ma)) (hb : PE X b (rO T W mb)) (hc : PE X c0 (rO T W mc)) (hm : noSet c0 = true := by rfl) :
    PE X (.Compare a [op, op'] [b, c0] pos) (rE T W (chn ma mb mc g g')) := by
  obtain ⟨r, ho, s⟩ := h
  obtain ⟨r', ho', s'⟩ := h'
  exact PE.mono (pe_chain ho ho' ha hb hc (marks_of hm)) fun _ _ _ => chn_read s s'
theorem t_chain {op op' : CmpOp} {g g' : D → D → Option (Bool × D)} (h : CmpR X T op g) (h' : CmpR X T op' g') (ha : PE X a (rO T W ma)) (hb : PE X b (rO T W mb)) (hc : PE X c0 (rO T W mc)) (hm : noSet c0 = true := by rfl) :
    PT X (.Compare a [op, op'] [b, c0] pos) (rT T W (tstB (chn ma mb mc g g'))) := by
  obtain ⟨r, ho, s⟩ := h
  obtain ⟨r', ho', s'⟩ := h'
  exact PT.mono (pt_chain ho ho' ha hb hc (marks_of hm)) fun σ H Q h => chn_read s s' (rT_ofB h)

/-! ### the operators -/
theorem cr_eq (c : Cok G T W k N sc fnc X) : CmpR X T .Eq eqG := by
  have hu := c.u64
  refine ⟨_, (op_eqD (by omega)).or (op_eqK hu), ?_⟩
  rw [c.hK]
  intro F H x y d e z Q s rx ry hg an
  unfold eqG at hg
  split at hg
  · obtain ⟨hl, rfl⟩ := of_some hg
    rw [Bool.and_eq_true] at hl
    have i1 : isDic _ = true := (Bool.and_eq_true_iff.mp hl.1).1
    have i2 : isDic _ = true := (Bool.and_eq_true_iff.mp hl.2).1
    obtain ⟨a, ka, rfl, ha, ea⟩ := rx.dict s i1
    obtain ⟨b, kb, rfl, hb, eb⟩ := ry.dict s i2
    exact .inr ⟨F, a, b, ka, kb, _, _, s, rfl, rfl, ha, hb, ea, eb, hl.1, hl.2, an.here s (.bl _)⟩
  · obtain ⟨hl, rfl⟩ := of_some hg
    rw [Bool.and_eq_true] at hl
    obtain ⟨d1, c1⟩ := rd_dp s rx hl.1
    obtain ⟨d2, c2⟩ := rd_dp s ry hl.2
    exact .inl ⟨_, _, d1, d2, shaped_of c1 hl.1, shaped_of c2 hl.2, an.here s (.bl _)⟩
theorem cr_ne (c : Cok G T W k N sc fnc X) : CmpR X T .NotEq neG := by
  have hu := c.u64
  refine ⟨_, (op_neD (by omega)).or (op_neK hu), ?_⟩
  rw [c.hK]
  intro F H x y d e z Q s rx ry hg an
  unfold neG at hg
  split at hg
  · rename_i fl b hb
    cases hg
    unfold eqG at hb
    split at hb
    · obtain ⟨hl, e1⟩ := of_some hb
      cases e1
      rw [Bool.and_eq_true] at hl
      have i1 : isDic _ = true := (Bool.and_eq_true_iff.mp hl.1).1
      have i2 : isDic _ = true := (Bool.and_eq_true_iff.mp hl.2).1
      obtain ⟨a, ka, rfl, ha, ea⟩ := rx.dict s i1
      obtain ⟨b, kb, rfl, hb, eb⟩ := ry.dict s i2
      exact .inr ⟨F, a, b, ka, kb, _, _, s, rfl, rfl, ha, hb, ea, eb, hl.1, hl.2, an.here s (.bl _)⟩
    · obtain ⟨hl, e1⟩ := of_some hb
      cases e1
      rw [Bool.and_eq_true] at hl
      obtain ⟨d1, c1⟩ := rd_dp s rx hl.1
      obtain ⟨d2, c2⟩ := rd_dp s ry hl.2
      exact .inl ⟨_, _, d1, d2, shaped_of c1 hl.1, shaped_of c2 hl.2, an.here s (.bl _)⟩
  · cases hg
def ordG (f : Int → Int → Bool) (g : List Nat → List Nat → Bool) : D → D → Option (Bool × D)
  | .int i, .int j => some (false, .bool (f i j))
  | .str x, .str y => some (false, .bool (g x.cps.toList y.cps.toList))
  | _, _ => none
def ltG := ordG (fun i j => decide (i < j)) (fun x y => decide (x < y))
def leG := ordG (fun i j => decide (i ≤ j)) (fun x y => !decide (y < x))
def gtG := ordG (fun i j => decide (j < i)) (fun x y => decide (y < x))
def geG := ordG (fun i j => decide (j ≤ i)) (fun x y => !decide (x < y))
theorem snd_ord {K : PySem.W.Frag} {f : Int → Int → Bool} {g : List Nat → List Nat → Bool} : Snd2 K (fun x y H Q => rI0 (fun i j => .bl (f i j)) x y H Q ∨ ∃ i j, x = .str i ∧ y = .str j ∧ Q (.bl (g i.cps.toList j.cps.toList)) H) (ordG f g) := by
  intro F H x y d e z Q s rx ry hg an
  unfold ordG at hg
  split at hg
  · cases hg
    cases rx.int; cases ry.int
    exact .inl ⟨_, _, rfl, rfl, an.here s (.bl _)⟩
  · cases hg
    obtain ⟨rfl, _⟩ := rx.str
    obtain ⟨rfl, _⟩ := ry.str
    exact .inr ⟨_, _, rfl, rfl, an.here s (.bl _)⟩
  · cases hg
theorem cr_lt : CmpR X T .Lt ltG := ⟨_, op_lt.or op_lt_str, snd_ord⟩
theorem cr_le : CmpR X T .LtE leG := ⟨_, op_le.or op_le_str, snd_ord⟩
theorem cr_gt : CmpR X T .Gt gtG := ⟨_, op_gt.or op_gt_str, snd_ord⟩
theorem cr_ge : CmpR X T .GtE geG := ⟨_, op_ge.or op_ge_str, snd_ord⟩
/-- is None, is True .. -/
def isNone : D → Bool
  | .none => true
  | _ => false
def isG : D → D → Option (Bool × D)
  | d, .none => some (false, .bool (isNone d))
  | .bool a, .bool b => some (false, .bool (decide (a = b)))
  | _, _ => none
def isNotG : D → D → Option (Bool × D)
  | d, .none => some (false, .bool (!isNone d))
  | .bool a, .bool b => some (false, .bool (!decide (a = b)))
  | _, _ => none
theorem rd_none {K : PySem.W.Frag} {F H : Hp} {v : V} {d : D} (h : RdV K F H v d) : decide (v = .non) = isNone d := by
  cases h with
  | enc h => cases h <;> rfl
  | own _ t => cases t <;> rfl
theorem cr_is : CmpR X T .Is isG := by
  refine ⟨_, op_isN.or op_isBl, ?_⟩
  intro F H x y d e z Q s rx ry hg an
  unfold isG at hg
  split at hg
  · cases hg
    cases ry.none
    exact .inl ⟨rfl, by rw [rd_none rx]; exact an.here s (.bl _)⟩
  · cases hg
    cases rx.bool; cases ry.bool
    exact .inr ⟨_, _, rfl, rfl, an.here s (.bl _)⟩
  · cases hg
theorem cr_isnot : CmpR X T .IsNot isNotG := by
  refine ⟨_, op_notN.or op_notBl, ?_⟩
  intro F H x y d e z Q s rx ry hg an
  unfold isNotG at hg
  split at hg
  · rename_i d'
    cases hg
    cases ry.none
    refine .inl ⟨rfl, ?_⟩
    rw [rd_none rx]
    exact an.here s (.bl _)
  · cases hg
    cases rx.bool; cases ry.bool
    exact .inr ⟨_, _, rfl, rfl, an.here s (.bl _)⟩
  · cases hg

/-! ### in, not in -/
def subS (x y : Str) : Bool := match x.cps.toList with
  | [c] => decide (c ∈ y.cps.toList)
  | _ => !(Builtin.Str.occurrences y x 0 y.length 1).isEmpty
def inG : D → D → Option (Bool × D)
  | .str x, .str y => some (false, .bool (subS x y))
  | d, .list xs => if flD d 60 && flA xs 60 then some (false, .bool (xs.any fun z => PyData.eqv z d)) else none
  | d, .tuple xs => if flD d 60 && flA xs 60 then some (false, .bool (xs.any fun z => PyData.eqv z d)) else none
  | d, .dict ds => if isKey d && isDic ds then some (false, .bool (dhas ds d)) else none
  | _, _ => none
def ninG (d e : D) : Option (Bool × D) := match inG d e with
  | some (_, .bool b) => some (false, .bool (!b))
  | _ => none
def rInAll (K : PySem.W.Frag) (neg : Bool) : R2 := fun x y H Q =>
  (∃ (c : Nat) (z : Str), x = .str ⟨#[c]⟩ ∧ y = .str z ∧ Q (.bl (if neg then !decide (c ∈ z.cps.toList) else decide (c ∈ z.cps.toList))) H) ∨
  (∃ i j, x = .str i ∧ y = .str j ∧ Q (.bl (if neg then !(!(Builtin.Str.occurrences j i 0 j.length 1).isEmpty) else !(Builtin.Str.occurrences j i 0 j.length 1).isEmpty)) H) ∨
  (∃ d ds, Dp K H x d ∧ (Dp K H y (.list ds) ∨ Dp K H y (.tuple ds)) ∧ d.canLay0 = true ∧ PyData.canLayAll0 ds = true ∧ d.depth ≤ 60 ∧ Q (.bl (if neg then !ds.any fun z => PyData.eqv z d else ds.any fun z => PyData.eqv z d)) H) ∨
  (∃ a o, y = .ref a ∧ DGet H a x o ∧ Q (.bl (if neg then !o.isSome else o.isSome)) H)
theorem op_inAll (hu : X.A.units + 80 < cLine) : OpR X (compareOp .In) (rInAll X.K false) := by
  intro pins s σ H x y v u Q I rx ry h
  rcases h with h | h | h | h
  · exact op_in_sign pins s σ H x y v u Q I rx ry h
  · exact op_in_str pins s σ H x y v u Q I rx ry h
  · obtain ⟨d, ds, hd, he, c1, c2, dp, q⟩ := h
    obtain ⟨as, r1⟩ := Dp.reads I d x v hd rx
    have hm : X.A.units + 1 + min (PyData.depthAll ds) d.depth < cLine := by
      have := Nat.min_le_right (PyData.depthAll ds) d.depth
      omega
    rcases he with he | he
    · obtain ⟨bs, r2⟩ := Dp.reads I _ y u he ry
      exact SeqAt.in_list_reads r2 r1 c2 c1 hm ⟨.bl _, H, I, rfl, q⟩
    · obtain ⟨bs, r2⟩ := Dp.reads I _ y u he ry
      exact SeqAt.in_tuple_reads r2 r1 c2 c1 hm ⟨.bl _, H, I, rfl, q⟩
  · obtain ⟨a, o, rfl, g, q⟩ := h
    obtain rfl : u = Value.ref a := ry
    exact d_in (by omega) I g rx fun s3 I3 => ⟨.bl o.isSome, H, I3, rfl, q⟩
theorem op_ninAll (hu : X.A.units + 80 < cLine) : OpR X (compareOp .NotIn) (rInAll X.K true) := by
  intro pins s σ H x y v u Q I rx ry h
  rcases h with h | h | h | h
  · exact op_notIn_sign pins s σ H x y v u Q I rx ry h
  · exact op_notIn_str pins s σ H x y v u Q I rx ry h
  · obtain ⟨d, ds, hd, he, c1, c2, dp, q⟩ := h
    obtain ⟨as, r1⟩ := Dp.reads I d x v hd rx
    have hm : X.A.units + 1 + min (PyData.depthAll ds) d.depth < cLine := by
      have := Nat.min_le_right (PyData.depthAll ds) d.depth
      omega
    rcases he with he | he
    · obtain ⟨bs, r2⟩ := Dp.reads I _ y u he ry
      exact SeqAt.notIn_list_reads r2 r1 c2 c1 hm ⟨.bl _, H, I, rfl, q⟩
    · obtain ⟨bs, r2⟩ := Dp.reads I _ y u he ry
      exact SeqAt.notIn_tuple_reads r2 r1 c2 c1 hm ⟨.bl _, H, I, rfl, q⟩
  · obtain ⟨a, o, rfl, g, q⟩ := h
    obtain rfl : u = Value.ref a := ry
    exact d_notIn (by omega) I g rx fun s3 I3 => ⟨.bl (!o.isSome), H, I3, rfl, q⟩
theorem in_str {K : PySem.W.Frag} {H : Hp} {x y : Str} {neg : Bool} {Q : VK} (q : Q (.bl (if neg then !subS x y else subS x y)) H) : rInAll K neg (.str x) (.str y) H Q := by
  have gen : subS x y = (!(Builtin.Str.occurrences y x 0 y.length 1).isEmpty) → rInAll K neg (.str x) (.str y) H Q := fun e => by
    rw [e] at q
    exact .inr (.inl ⟨x, y, rfl, rfl, by cases neg <;> exact q⟩)
  cases hx : x.cps.toList with
  | nil => exact gen (by unfold subS; rw [hx])
  | cons c r =>
    cases r with
    | cons _ _ => exact gen (by unfold subS; rw [hx])
    | nil =>
      have e : subS x y = decide (c ∈ y.cps.toList) := by unfold subS; rw [hx]
      rw [e] at q
      have e1 : x = ⟨#[c]⟩ := by
        have h2 : x.cps = #[c] := by rw [← Array.toArray_toList (xs := x.cps), hx]
        cases x with
        | mk a => rw [show a = #[c] from h2]
      subst e1
      exact .inl ⟨c, y, rfl, rfl, q⟩
theorem look_some {K : PySem.W.Frag} {F : Hp} {kvs : List (Key × V)} {ds : List (D × D)} (t : EncK K F kvs ds) (k : Key) : (valV kvs k).isSome = dhas ds (keyD k) := by
  rw [← dlook_has]
  have := t.look k
  cases e3 : valV kvs k <;> cases e4 : dlook ds (keyD k) <;> (rw [e3, e4] at this; first | rfl | cases this)
theorem in_core {K : PySem.W.Frag} {F H : Hp} {x y : V} {d e : D} {b neg : Bool} {Q : VK} (s : Ext F H) (rx : RdV K F H x d) (ry : RdV K F H y e) (hg : inG d e = some (false, .bool b)) (q : Q (.bl (if neg then !b else b)) H) : rInAll K neg x y H Q := by
  unfold inG at hg
  split at hg
  · cases hg
    obtain ⟨rfl, _⟩ := rx.str
    obtain ⟨rfl, _⟩ := ry.str
    exact in_str q
  · obtain ⟨hl, e1⟩ := of_some hg
    cases e1
    rw [Bool.and_eq_true] at hl
    obtain ⟨d1, c1⟩ := rd_dp s rx hl.1
    obtain ⟨d2, c2⟩ := rd_dp (n := 61) s ry (by simpa [flD] using hl.2)
    exact .inr (.inr (.inl ⟨_, _, d1, .inl d2, c1, by simpa [PyData.canLay0] using c2, flD_depth _ _ hl.1, q⟩))
  · obtain ⟨hl, e1⟩ := of_some hg
    cases e1
    rw [Bool.and_eq_true] at hl
    obtain ⟨d1, c1⟩ := rd_dp s rx hl.1
    obtain ⟨d2, c2⟩ := rd_dp (n := 61) s ry (by simpa [flD] using hl.2)
    exact .inr (.inr (.inl ⟨_, _, d1, .inr d2, c1, by simpa [PyData.canLay0] using c2, flD_depth _ _ hl.1, q⟩))
  · obtain ⟨hl, e1⟩ := of_some hg
    cases e1
    rw [Bool.and_eq_true] at hl
    obtain ⟨k, rfl⟩ := isKey_D hl.1
    obtain ⟨a, kvs, rfl, h, t⟩ := ry.dict s hl.2
    have ex : x = kV k := by
      cases rx with
      | enc en => exact enc_key en
      | own _ tt => cases k <;> cases tt
    subst ex
    refine .inr (.inr (.inr ⟨a, valV kvs k, rfl, .inl ⟨kvs, k, h, rfl, rfl⟩, ?_⟩))
    rw [look_some t k]
    exact q
  · cases hg
theorem inG_bool {d e z : D} {fl : Bool} (h : inG d e = some (fl, z)) : ∃ b, fl = false ∧ z = .bool b := by
  unfold inG at h
  split at h
  · cases h; exact ⟨_, rfl, rfl⟩
  · obtain ⟨_, e⟩ := of_some h; cases e; exact ⟨_, rfl, rfl⟩
  · obtain ⟨_, e⟩ := of_some h; cases e; exact ⟨_, rfl, rfl⟩
  · obtain ⟨_, e⟩ := of_some h; cases e; exact ⟨_, rfl, rfl⟩
  · cases h
theorem cr_in (c : Cok G T W k N sc fnc X) : CmpR X T .In inG := by
  refine ⟨_, op_inAll c.u64, ?_⟩
  rw [c.hK]
  intro F H x y d e z Q s rx ry hg an
  obtain ⟨fl, z⟩ := z
  obtain ⟨b, rfl, rfl⟩ := inG_bool hg
  exact in_core s rx ry hg (an.here s (.bl _))
theorem cr_nin (c : Cok G T W k N sc fnc X) : CmpR X T .NotIn ninG := by
  refine ⟨_, op_ninAll c.u64, ?_⟩
  rw [c.hK]
  intro F H x y d e z Q s rx ry hg an
  unfold ninG at hg
  split at hg
  · rename_i fl b hb
    cases hg
    obtain ⟨_, rfl, _⟩ := inG_bool hb
    exact in_core s rx ry hb (an.here s (.bl _))
  · cases hg
end
end PK
set_option maxHeartbeats 1000000
namespace PK
open PySem PySem.Spec PyProof.Rows L2
section
variable {G : G0} {T : XT} {W : WX} {k : Nat} {N : List Str} {sc : Scope} {fnc : Str → Bool} {X : Cx} {pos : Pos} {a b e : Expr} {ma mb mc : M Tok}
/-! ### truth -/
def tru : D → Option Bool
  | .none => some false
  | .bool b => some b
  | .int i => some (i != 0)
  | .str x => some ((x.length : Int) != 0)
  | .list xs => some (!xs.isEmpty)
  | .tuple xs => some (!xs.isEmpty)
  | .dict _ => none
def tstO (m : M Tok) : M Bool := bnd m fun t ρ => match (rsv ρ t).bind tru with
  | some b => .ok b ρ
  | none => .stuck
theorem isEmpty_eq {K : PySem.W.Frag} {F : Hp} {vs : List V} {ds : List D} (t : EncL K F vs ds) : vs.isEmpty = ds.isEmpty := by cases t <;> rfl
theorem tru_rd {K : PySem.W.Frag} {F H : Hp} {v : V} {d : D} {b : Bool} (s : Ext F H) (r : RdV K F H v d) (h : tru d = some b) : TruV K v H b := by
  cases d with
  | none => cases r.none; cases h; rfl
  | bool c => cases r.bool; cases h; rfl
  | int i => cases r.int; cases h; rfl
  | str x =>
    obtain ⟨rfl, o⟩ := r.str
    cases h
    exact ⟨okS_len o, rfl⟩
  | list xs =>
    obtain ⟨a, vs, rfl, h1, t⟩ := r.list s
    cases h
    exact .inl ⟨vs, SqL.of h1, by rw [isEmpty_eq t]⟩
  | tuple xs =>
    obtain ⟨a, vs, rfl, h1, t⟩ := r.tuple s
    cases h
    exact .inr (.inl ⟨vs, h1, by rw [isEmpty_eq t]⟩)
  | dict _ => cases h
/-- an expression whose test is its truth -/
def plainT : Expr → Bool
  | .UnaryOp .Not _ _ => false
  | .BoolOp .. => false
  | .IfExp .. => false
  | .Compare .. => false
  | _ => true
theorem plain_of {e : Expr} (h : plainT e = true) (env : PySem.Env) (whole : Sem Value) : isTrue e env whole = (do let v ← whole; standAt e.pos; holding [v] (truthy v)) := by
  cases e with
  | UnaryOp op x p => cases op <;> first | rfl | cases h
  | _ => first | rfl | cases h
theorem rT_ofO {m : M Tok} {σ : St} {H : Hp} {Q : Bool → Hp → Prop} (h : rT T W (tstO m) σ H Q) : rO T W m σ H fun x H' => ∃ k, TruV T.K x H' k ∧ Q k H' := by
  obtain ⟨F, ρ, rel, h⟩ := h
  refine ⟨F, ρ, rel, ?_⟩
  unfold tstO bnd at h
  cases e1 : m ρ with
  | stuck => rw [e1] at h; exact h
  | err x ρ1 => rw [e1] at h; exact h
  | ok t ρ1 =>
    rw [e1] at h
    intro F1 H1 v g x
    simp only at h
    cases q : rsv ρ1 t with
    | none => simp [q] at h; exact h.elim
    | some d =>
      simp only [q, Option.bind_some] at h
      cases q2 : tru d with
      | none => rw [q2] at h; exact h.elim
      | some b =>
        rw [q2] at h
        exact ⟨b, tru_rd g.rel.sub (x.read g.rel q) q2, h F1 H1 g⟩
theorem t_truth (c : Cok G T W k N sc fnc X) (ha : PE X a (rO T W ma)) (hp : plainT a = true := by rfl) : PT X a (rT T W (tstO ma)) := by
  refine PT.mono (pt_truth ha (plain_of hp _)) fun σ H Q h => ?_
  rw [c.hK]
  exact rT_ofO h

/-! ### and, or, not in tests -/
def andT (a b : M Bool) : M Bool := bnd a fun c => if c = true then b else fun ρ => .ok false ρ
def orT (a b : M Bool) : M Bool := bnd a fun c => if c = true then (fun ρ => .ok true ρ) else b
def notT (a : M Bool) : M Bool := bnd a fun c ρ => .ok (!c) ρ
theorem PostT.bndT {F H : Hp} {σ : St} {ρ : En} {m : M Bool} {kk : Bool → M Bool} {Q : Bool → Hp → Prop} (h : PostT T W F σ H ρ (bnd m kk ρ) Q) :
    PostT T W F σ H ρ (m ρ) fun v H1 => ∃ F1 ρ1, Rel T.K F1 σ H1 ρ1 ∧ PostT T W F1 σ H1 ρ1 (kk v ρ1) Q := by
  unfold bnd at h
  cases e : m ρ with
  | ok t ρ1 =>
    rw [e] at h
    exact fun F1 H1 g => ⟨F1, ρ1, g.rel, h.later g⟩
  | err x ρ1 => rw [e] at h; exact h
  | stuck => rw [e] at h; exact h
variable {ta tb tc : M Bool} {rest : List Expr}
theorem rT_and {σ : St} {H : Hp} {Q : Bool → Hp → Prop} (h : rT T W (andT ta tb) σ H Q) : tAnd (rT T W ta) (rT T W tb) σ H Q := by
  obtain ⟨F, ρ, rel, h⟩ := h
  refine ⟨F, ρ, rel, ?_⟩
  have h1 := PostT.bndT h
  cases e : ta ρ with
  | stuck => rw [e] at h1; exact h1
  | err x ρ1 => rw [e] at h1; exact h1
  | ok c ρ1 =>
    rw [e] at h1
    intro F1 H1 g
    obtain ⟨F2, ρ2, r2, h2⟩ := h1 F1 H1 g
    cases c with
    | true => exact ⟨F2, ρ2, r2, h2⟩
    | false => exact h2 F2 H1 (GoE.refl r2)
theorem rT_or {σ : St} {H : Hp} {Q : Bool → Hp → Prop} (h : rT T W (orT ta tb) σ H Q) : tOr (rT T W ta) (rT T W tb) σ H Q := by
  obtain ⟨F, ρ, rel, h⟩ := h
  refine ⟨F, ρ, rel, ?_⟩
  have h1 := PostT.bndT h
  cases e : ta ρ with
  | stuck => rw [e] at h1; exact h1
  | err x ρ1 => rw [e] at h1; exact h1
  | ok c ρ1 =>
    rw [e] at h1
    intro F1 H1 g
    obtain ⟨F2, ρ2, r2, h2⟩ := h1 F1 H1 g
    cases c with
    | false => exact ⟨F2, ρ2, r2, h2⟩
    | true => exact h2 F2 H1 (GoE.refl r2)
theorem rT_not {σ : St} {H : Hp} {Q : Bool → Hp → Prop} (h : rT T W (notT ta) σ H Q) : tNot (rT T W ta) σ H Q := by
  obtain ⟨F, ρ, rel, h⟩ := h
  refine ⟨F, ρ, rel, ?_⟩
  have h1 := PostT.bndT h
  cases e : ta ρ with
  | stuck => rw [e] at h1; exact h1
  | err x ρ1 => rw [e] at h1; exact h1
  | ok c ρ1 =>
    rw [e] at h1
    intro F1 H1 g
    obtain ⟨F2, ρ2, r2, h2⟩ := h1 F1 H1 g
    exact h2 F2 H1 (GoE.refl r2)
theorem PW.mono {X : Cx} {e : Expr} {t t' : TT} (h : PW X e t) (k : ∀ σ H Q, t' σ H Q → t σ H Q) : PW X e t' := ⟨fun wh pins s σ H Q I q => h.run wh pins s σ H Q I (k σ H Q q)⟩
theorem w_and1 (ha : PT X a (rT T W ta)) : PW X (.BoolOp .And [a] pos) (rT T W ta) := pw_and1 ha
theorem w_or1 (ha : PT X a (rT T W ta)) : PW X (.BoolOp .Or [a] pos) (rT T W ta) := pw_or1 ha
theorem w_and (ha : PT X a (rT T W ta)) (hb : PW X (.BoolOp .And (b :: rest) pos) (rT T W tb)) : PW X (.BoolOp .And (a :: b :: rest) pos) (rT T W (andT ta tb)) := PW.mono (pw_and ha hb) fun _ _ _ => rT_and
theorem w_or (ha : PT X a (rT T W ta)) (hb : PW X (.BoolOp .Or (b :: rest) pos) (rT T W tb)) : PW X (.BoolOp .Or (a :: b :: rest) pos) (rT T W (orT ta tb)) := PW.mono (pw_or ha hb) fun _ _ _ => rT_or
theorem t_not (ha : PT X a (rT T W ta)) : PT X (.UnaryOp .Not a pos) (rT T W (notT ta)) := PT.mono (pt_not ha) fun _ _ _ => rT_not
/-- a if t else b, in a test -/
def iteT' (c a b : M Bool) : M Bool := bnd c fun r => if r = true then a else b

/-! ### .. as values -/
def andV (a : M (Bool × D)) (b : M (Bool × D)) : M (Bool × D) := bnd a fun r => match r with
  | (false, d) => (match tru d with
    | some true => b
    | some false => fun ρ => .ok (false, d) ρ
    | none => fun _ => .stuck)
  | _ => fun _ => .stuck
def orV (a : M (Bool × D)) (b : M (Bool × D)) : M (Bool × D) := bnd a fun r => match r with
  | (false, d) => (match tru d with
    | some false => b
    | some true => fun ρ => .ok (false, d) ρ
    | none => fun _ => .stuck)
  | _ => fun _ => .stuck
def notV (a : M Tok) : M (Bool × D) := bnd a fun t ρ => match (rsv ρ t).bind tru with
  | some b => .ok (false, .bool (!b)) ρ
  | none => .stuck
variable {na nb nc : M (Bool × D)}
theorem rE_and {σ : St} {H : Hp} {Q : VK} (h : rE T W (andV na nb) σ H Q) : tAndT T.K (rE T W na) (rE T W nb) σ H Q := by
  obtain ⟨F, ρ, rel, h⟩ := h
  refine ⟨F, ρ, rel, ?_⟩
  have h1 := PostE.frz h
  cases e : na ρ with
  | stuck => rw [e] at h1; exact h1
  | err x ρ1 => rw [e] at h1; exact h1
  | ok r ρ1 =>
    rw [e] at h1
    intro F1 H1 v g x
    obtain ⟨F2, ρ2, r2, g2, en, h2⟩ := h1 F1 H1 v g x
    obtain ⟨fl, d⟩ := r2
    cases fl with
    | true => exact h2.elim
    | false =>
      simp only at h2 en
      cases q : tru d with
      | none => rw [q] at h2; exact h2.elim
      | some c =>
        rw [q] at h2
        refine ⟨c, tru_rd g2.rel.sub (.enc en) q, ?_⟩
        cases c with
        | true => exact ⟨F2, ρ2, g2.rel, h2⟩
        | false => exact h2 F2 H1 v (GoE.refl g2.rel) (.shr en)
theorem rE_or {σ : St} {H : Hp} {Q : VK} (h : rE T W (orV na nb) σ H Q) : tOrT T.K (rE T W na) (rE T W nb) σ H Q := by
  obtain ⟨F, ρ, rel, h⟩ := h
  refine ⟨F, ρ, rel, ?_⟩
  have h1 := PostE.frz h
  cases e : na ρ with
  | stuck => rw [e] at h1; exact h1
  | err x ρ1 => rw [e] at h1; exact h1
  | ok r ρ1 =>
    rw [e] at h1
    intro F1 H1 v g x
    obtain ⟨F2, ρ2, r2, g2, en, h2⟩ := h1 F1 H1 v g x
    obtain ⟨fl, d⟩ := r2
    cases fl with
    | true => exact h2.elim
    | false =>
      simp only at h2 en
      cases q : tru d with
      | none => rw [q] at h2; exact h2.elim
      | some c =>
        rw [q] at h2
        refine ⟨c, tru_rd g2.rel.sub (.enc en) q, ?_⟩
        cases c with
        | false => exact ⟨F2, ρ2, g2.rel, h2⟩
        | true => exact h2 F2 H1 v (GoE.refl g2.rel) (.shr en)
theorem rE_not {σ : St} {H : Hp} {Q : VK} (h : rE T W (notV ma) σ H Q) : tNotT T.K (rO T W ma) σ H Q := by
  obtain ⟨F, ρ, rel, h⟩ := h
  refine ⟨F, ρ, rel, ?_⟩
  have h1 := PostE.bndO h
  cases e : ma ρ with
  | stuck => rw [e] at h1; exact h1
  | err x ρ1 => rw [e] at h1; exact h1
  | ok t ρ1 =>
    rw [e] at h1
    intro F1 H1 v g x
    obtain ⟨F2, ρ2, t2, g2, x2, h2⟩ := h1 F1 H1 v g x
    cases q : rsv ρ2 t2 with
    | none => simp [q] at h2; exact h2.elim
    | some d =>
      simp only [q, Option.bind_some] at h2
      cases q2 : tru d with
      | none => rw [q2] at h2; exact h2.elim
      | some b =>
        rw [q2] at h2
        exact ⟨b, tru_rd g2.rel.sub (x2.read g2.rel q) q2, h2 F2 H1 _ (GoE.refl g2.rel) (.shr (.bl _))⟩
theorem e_one {op : BoolOp} (ha : PE X a (rE T W na)) : PE X (.BoolOp op [a] pos) (rE T W na) := pe_one ha
theorem e_and (c : Cok G T W k N sc fnc X) (ha : PE X a (rE T W na)) (hb : PE X (.BoolOp .And (b :: rest) pos) (rE T W nb)) : PE X (.BoolOp .And (a :: b :: rest) pos) (rE T W (andV na nb)) :=
  PE.mono (pe_andT ha hb) fun _ _ _ h => by rw [c.hK]; exact rE_and h
theorem e_or (c : Cok G T W k N sc fnc X) (ha : PE X a (rE T W na)) (hb : PE X (.BoolOp .Or (b :: rest) pos) (rE T W nb)) : PE X (.BoolOp .Or (a :: b :: rest) pos) (rE T W (orV na nb)) :=
  PE.mono (pe_orT ha hb) fun _ _ _ h => by rw [c.hK]; exact rE_or h
theorem e_not (c : Cok G T W k N sc fnc X) (ha : PE X a (rO T W ma)) : PE X (.UnaryOp .Not a pos) (rE T W (notV ma)) :=
  PE.mono (pe_notT ha) fun _ _ _ h => by rw [c.hK]; exact rE_not h
/-- a if t else b -/
def iteE (c : M Bool) (a b : M (Bool × D)) : M (Bool × D) := bnd c fun r => if r = true then a else b
theorem e_ite {c0 : Expr} (hc : PT X c0 (rT T W tc)) (ha : PE X a (rE T W na)) (hb : PE X b (rE T W nb)) : PE X (.IfExp c0 a b pos) (rE T W (iteE tc na nb)) := by
  refine PE.mono (pe_ifExp hc ha hb) fun σ H Q ⟨F, ρ, rel, h⟩ => ⟨F, ρ, rel, ?_⟩
  have h1 := PostE.bndT h
  cases e : tc ρ with
  | stuck => rw [e] at h1; exact h1
  | err x ρ1 => rw [e] at h1; exact h1
  | ok c ρ1 =>
    rw [e] at h1
    intro F1 H1 g
    obtain ⟨F2, ρ2, g2, h2⟩ := h1 F1 H1 g
    cases c with
    | true => exact ⟨F2, ρ2, g2.rel, h2⟩
    | false => exact ⟨F2, ρ2, g2.rel, h2⟩
/-- a test whose whole is a value (a written if-expression in a test) -/
theorem isTrue_IfExp' {c0 a b : Expr} (hc : PT X c0 (rT T W tc)) (ha : PT X a (rT T W ta)) (hb : PT X b (rT T W tb)) : PT X (.IfExp c0 a b pos) (rT T W (iteT' tc ta tb)) := by
  refine ⟨fun pins s σ H Q I h => ?_⟩
  obtain ⟨F, ρ, rel, h⟩ := h
  have h1 := PostT.bndT h
  show wpAny _ _ (do if ← isTrue c0 X.env (eval c0 X.env) then isTrue a X.env (eval a X.env) else isTrue b X.env (eval b X.env)) _ _ s
  have run := hc.run pins s σ H (fun v H1 => ∃ F1 ρ1, Rel T.K F1 σ H1 ρ1 ∧ PostT T W F1 σ H1 ρ1 ((if v = true then ta else tb) ρ1) Q) I ⟨F, ρ, rel, h1⟩
  refine wpAny_bind (thn run fun r s1 hr => ?_)
  obtain ⟨H1, I1, F1, ρ1, rel1, q⟩ := hr
  cases r with
  | true => exact ha.run pins s1 σ H1 Q I1 ⟨F1, ρ1, rel1, q⟩
  | false => exact hb.run pins s1 σ H1 Q I1 ⟨F1, ρ1, rel1, q⟩

/-! ### subscripts -/
def atD (xs : List D) (i : Int) : Option D := atI xs i
def idxG : D → D → Option (Bool × D)
  | .list xs, .int i => (atI xs i).map fun d => (false, d)
  | .tuple xs, .int i => (atI xs i).map fun d => (false, d)
  | .str x, .int i => (atI x.cps.toList i).map fun c => (false, .str ⟨#[c]⟩)
  | .dict ds, d => if isKey d && isDic ds then (dlook ds d).map fun e => (false, e) else none
  | _, _ => none
def rIxD : R2 := fun x y H Q => ∃ a v, x = .ref a ∧ DGet H a y (some v) ∧ Q v H
theorem ix_dict (hu : X.A.units + 1 < cLine) : IxR X rIxD := by
  intro value slice pins s σ H x y v u Q I rx ry h hs
  obtain ⟨a, z, rfl, g, q⟩ := h
  obtain rfl : v = Value.ref a := rx
  have hT := dict_typeIs I g
  unfold subscriptTail
  refine wpAny_bind ?_
  rw [getitemInPython_of_ne hT.not_modules]
  refine wpAny_bind (wpAny_specialOf hT PySem.F.slot_dict_getitem.lookup ?_)
  have fin : wpAny (model X.prog X.w) X.A (subscripted slice false (.ref a) u) (fun r s₃ => wpAny (model X.prog X.w) X.A (letTemporaryGo value (.ref a) r >>= fun _ => pure r) (EP X pins σ Q) X.xe s₃) X.xe s := by
    rw [hs]
    exact wpAny_operating (d_getItem hu I g ry fun w' s3 I3 rw' => wpAny_bind (wpAny_letTemporaryGo (wpAny_pure ⟨z, H, I3, rw', q⟩)))
  first
    | exact wpAny_pure (wpAny_bind fin)
    | exact wpAny_bind (wpAny_pure (wpAny_bind fin))
    | exact wpAny_bind fin
theorem encL_at {K : PySem.W.Frag} {F : Hp} {vs : List V} {ds : List D} (t : EncL K F vs ds) {i : Int} {d : D} (h : atI ds i = some d) : ∃ v, atI vs i = some v ∧ Enc K F v d := by
  unfold atI at h ⊢
  rw [t.length]
  cases e : ixN ds.length i with
  | none => rw [e] at h; cases h
  | some j =>
    rw [e] at h
    exact t.get h
theorem okS_one {x : Str} {c : Nat} (h : okS x = true) (hm : c ∈ x.cps.toList) : okS ⟨#[c]⟩ = true := by
  have h1 := okS_ok h
  unfold PyData.strOk at h1
  rw [Array.all_eq_true_iff_forall_mem] at h1
  have := h1 c (by simpa using hm)
  unfold okS PyData.strOk
  simp only [decide_eq_true_eq] at this
  simp [this]
theorem atI_mem {α : Type} {xs : List α} {i : Int} {v : α} (h : atI xs i = some v) : v ∈ xs := by
  obtain ⟨j, _, h2, _⟩ := atI_get h
  exact List.mem_of_getElem? h2
/-- not a slice -/
def noSlc : Expr → Bool
  | .Slice .. => false
  | _ => true
theorem plainIx_of {e : Expr} (h : noSlc e = true) : PlainIx e := by
  intro o i
  cases e <;> first | rfl | cases h
theorem e_idx (c : Cok G T W k N sc fnc X) (ha : PE X a (rO T W ma)) (hb : PE X b (rO T W mb)) (hs : noSlc b = true := by rfl) : PE X (.Subscript a b pos) (rE T W (op2 ma mb idxG)) := by
  have hu := c.u64
  refine PE.mono (pe_ix (ix_seq.or (ix_dict (by omega))) ha hb (plainIx_of hs)) fun _ _ _ => op2_read ?_
  rw [c.hK]
  intro F H x y d e z Q s rx ry hg an
  unfold idxG at hg
  split at hg
  · rename_i xs i
    cases e1 : atI xs i with
    | none => rw [e1] at hg; cases hg
    | some d1 =>
      rw [e1] at hg; cases hg
      obtain ⟨p, vs, rfl, h1, t⟩ := rx.list s
      cases ry.int
      obtain ⟨v, e2, en⟩ := encL_at t e1
      exact .inl (.inl ⟨p, vs, i, v, rfl, rfl, SqL.of h1, e2, an.here s en⟩)
  · rename_i xs i
    cases e1 : atI xs i with
    | none => rw [e1] at hg; cases hg
    | some d1 =>
      rw [e1] at hg; cases hg
      obtain ⟨p, vs, rfl, h1, t⟩ := rx.tuple s
      cases ry.int
      obtain ⟨v, e2, en⟩ := encL_at t e1
      exact .inl (.inr (.inl ⟨p, vs, i, v, rfl, rfl, h1, e2, an.here s en⟩))
  · rename_i x i
    cases e1 : atI x.cps.toList i with
    | none => rw [e1] at hg; cases hg
    | some d1 =>
      rw [e1] at hg; cases hg
      obtain ⟨rfl, o⟩ := rx.str
      cases ry.int
      exact .inl (.inr (.inr ⟨x, i, d1, rfl, rfl, okS_len o, e1, an.here s (.str _ (okS_one o (atI_mem e1)))⟩))
  · rename_i ds
    split at hg
    · rename_i hl
      rw [Bool.and_eq_true] at hl
      obtain ⟨kk, rfl⟩ := isKey_D hl.1
      obtain ⟨p, kvs, rfl, h, t⟩ := rx.dict s hl.2
      have ey : y = kV kk := by
        cases ry with
        | enc en => exact enc_key en
        | own _ tt => cases kk <;> cases tt
      subst ey
      have lk := t.look kk
      cases e1 : dlook ds (keyD kk) with
      | none => rw [e1] at hg; cases hg
      | some d1 =>
        rw [e1] at hg lk; cases hg
        cases e2 : valV kvs kk with
        | none => rw [e2] at lk; cases lk
        | some v =>
          rw [e2] at lk
          cases lk with
          | some en => exact .inr ⟨p, v, rfl, .inl ⟨kvs, kk, h, rfl, e2.symm⟩, an.here s en⟩
    · cases hg
  · cases hg
end
end PK
set_option maxHeartbeats 1000000
namespace PK
open PySem PySem.Spec PyProof.Rows L2
section
variable {G : G0} {T : XT} {W : WX} {k : Nat} {N : List Str} {sc : Scope} {fnc : Str → Bool} {X : Cx} {pos p : Pos} {a b e : Expr} {es : List Expr} {ma mb mc : M Tok} {ms : M (List Tok)}
/-! ### slices -/
def pNone : M (Option Int) := fun ρ => .ok none ρ
def pSome (m : M Tok) : M (Option Int) := bnd m fun t ρ => match rsv ρ t with
  | some (.int i) => .ok (some i) ρ
  | _ => .stuck
def PostP (T : XT) (W : WX) (F : Hp) (σ : St) (H : Hp) (ρ : En) (r : Res (Option Int)) (Q : Option Int → Hp → Prop) : Prop := match r with
  | .ok b ρ' => ∀ F' H', GoE T.K F σ H ρ F' H' ρ' → Q b H'
  | .err x ρ' => ∀ F' H' c dx, GoE T.K F σ H ρ F' H' ρ' → ExcOk T F' c dx x → W c dx σ H'
  | .stuck => False
def rP (T : XT) (W : WX) (m : M (Option Int)) : TO := fun σ H Q => ∃ F ρ, Rel T.K F σ H ρ ∧ PostP T W F σ H ρ (m ρ) Q
theorem PO.mono {X : Cx} {e : Option Expr} {t t' : TO} (h : PO X e t) (k : ∀ σ H Q, t' σ H Q → t σ H Q) : PO X e t' := ⟨fun pins s σ H Q I q => h.run pins s σ H Q I (k σ H Q q)⟩
theorem p_none : PO X none (rP T W pNone) := PO.mono po_none fun σ H Q ⟨F, ρ, rel, h⟩ => h F H (GoE.refl rel)
theorem p_some (ha : PE X a (rO T W ma)) : PO X (some a) (rP T W (pSome ma)) := by
  refine PO.mono (po_some ha) fun σ H Q ⟨F, ρ, rel, h⟩ => ⟨F, ρ, rel, ?_⟩
  unfold pSome bnd at h
  cases e1 : ma ρ with
  | stuck => rw [e1] at h; exact h
  | err x ρ1 => rw [e1] at h; exact h
  | ok t ρ1 =>
    rw [e1] at h
    intro F1 H1 v g x
    simp only at h
    cases q : rsv ρ1 t with
    | none => rw [q] at h; exact h.elim
    | some d =>
      rw [q] at h
      cases d with
      | int i => cases (x.read g.rel q).int; exact ⟨i, rfl, h F1 H1 g⟩
      | _ => exact h.elim
def cutL {α : Type} (xs : List α) (lo hi : Option Int) : List α := (xs.drop (HT.sIx xs.length 0 lo)).take (HT.sIx xs.length xs.length hi - HT.sIx xs.length 0 lo)
def slcG : D → Option Int → Option Int → Option (Bool × D)
  | .list xs, lo, hi => some (true, .list (cutL xs lo hi))
  | .tuple xs, lo, hi => some (false, .tuple (cutL xs lo hi))
  | .str x, lo, hi => some (false, .str ⟨(cutL x.cps.toList lo hi).toArray⟩)
  | _, _, _ => none
def slc (ma : M Tok) (lo hi : M (Option Int)) : M (Bool × D) := bnd ma fun t => bnd lo fun l => bnd hi fun u ρ => ans ((rsv ρ t).bind fun x => slcG x l u) ρ
theorem okS_sub {x y : Str} (h : okS x = true) (hl : y.cps.size ≤ x.cps.size) (hm : ∀ c ∈ y.cps.toList, c ∈ x.cps.toList) : okS y = true := by
  have h1 := okS_ok h
  have h2 := okS_len h
  unfold PyData.strOk at h1
  unfold okS PyData.strOk
  rw [Bool.and_eq_true, decide_eq_true_eq]
  rw [Array.all_eq_true_iff_forall_mem] at h1 ⊢
  refine ⟨fun c hc => h1 c (by simpa using hm c (by simpa using hc)), ?_⟩
  rw [lim_eq] at h2
  exact Nat.le_trans hl h2
theorem cutL_len {α : Type} (xs : List α) (lo hi : Option Int) : (cutL xs lo hi).length ≤ xs.length := by
  unfold cutL
  rw [List.length_take, List.length_drop]
  omega
theorem cutL_mem {α : Type} {xs : List α} {lo hi : Option Int} {x : α} (h : x ∈ cutL xs lo hi) : x ∈ xs := List.mem_of_mem_drop (List.mem_of_mem_take h)
theorem encL_cut {K : PySem.W.Frag} {F : Hp} {vs : List V} {ds : List D} (t : EncL K F vs ds) (lo hi : Option Int) : EncL K F (cutV vs lo hi) (cutL ds lo hi) := by
  unfold cutV cutL
  rw [t.length]
  exact (t.drop _).take _
theorem cut_whole {K : PySem.W.Frag} {F : Hp} {vs : List V} {ds : List D} {l u : Option Int} (tt : EncL K F vs ds) (hw : HT.sIx vs.length 0 l = 0 ∧ HT.sIx vs.length vs.length u = vs.length) : cutL ds l u = ds := by
  unfold cutL
  rw [← tt.length, hw.1, hw.2, List.drop_zero, Nat.sub_zero, List.take_of_length_le (by rw [tt.length]; exact Nat.le_refl _)]
def rSlAll (K : PySem.W.Frag) : V → Option Int → Option Int → Hp → VK → Prop := fun x lo hi H Q => rSlL K x lo hi H Q ∨ rSlA K x lo hi H Q ∨ rSlS x lo hi H Q
theorem e_slc (c : Cok G T W k N sc fnc X) {p2 : Pos} {lo hi : Option Expr} {ml mh : M (Option Int)} (ha : PE X a (rO T W ma)) (hl : PO X lo (rP T W ml)) (hh : PO X hi (rP T W mh)) : PE X (.Subscript a (.Slice lo hi none p2) pos) (rE T W (slc ma ml mh)) := by
  refine PE.mono (pe_slice (sl_list.or (sl_tupA.or sl_str)) ha hl hh) fun σ H Q ⟨F, ρ, rel, h⟩ => ⟨F, ρ, rel, ?_⟩
  rw [c.hK]
  have h1 := PostE.bndO h
  cases e1 : ma ρ with
  | stuck => rw [e1] at h1; exact h1
  | err x ρ1 => rw [e1] at h1; exact h1
  | ok t ρ1 =>
    rw [e1] at h1
    intro F0 H1 v g0 x0
    obtain ⟨F1, ρ1, t1, g1, x1, h2⟩ := h1 F0 H1 v g0 x0
    refine ⟨F1, ρ1, g1.rel, ?_⟩
    unfold bnd at h2
    cases e2 : ml ρ1 with
    | stuck => rw [e2] at h2; exact h2
    | err x ρ2 => rw [e2] at h2; exact h2
    | ok l ρ2 =>
      rw [e2] at h2
      intro F2 H2 g2
      refine ⟨F2, ρ2, g2.rel, ?_⟩
      simp only at h2
      cases e3 : mh ρ2 with
      | stuck => rw [e3] at h2; exact h2
      | err x ρ3 => rw [e3] at h2; exact fun F3 H3 cc dx g3 ex => h2 F3 H3 cc dx (g2.trans g3) ex
      | ok u ρ3 =>
        rw [e3] at h2
        intro F3 H3 g3
        have g4 := g2.trans g3
        obtain ⟨z, ez, an⟩ := ans_some g4.rel (PostE.later h2 g4)
        cases q : rsv ρ3 t1 with
        | none => rw [q] at ez; cases ez
        | some d =>
          rw [q] at ez
          simp only [Option.bind_some] at ez
          have rd := (x1.go g4).read g4.rel q
          have s := g4.rel.sub
          unfold slcG at ez
          split at ez
          · cases ez
            obtain ⟨b, vs, rfl, hb, tt⟩ := rd.list s
            exact .inl ⟨b, vs, rfl, SqL.of hb, fun pp hp => Ans.lst s an (encL_cut tt _ _) hp⟩
          · cases ez
            obtain ⟨b, vs, rfl, hb, tt⟩ := rd.tuple s
            refine .inr (.inl ⟨b, vs, rfl, hb, fun hw => ?_, fun _ pp hp => Ans.tup s an (encL_cut tt _ _) hp⟩)
            rw [cut_whole tt hw] at an
            cases rd with
            | enc en => exact an.here s en
            | own _ tt => cases tt
          · cases ez
            obtain ⟨rfl, o⟩ := rd.str
            refine .inr (.inr ⟨_, rfl, okS_len o, ?_⟩)
            refine an.here s (.str _ (okS_sub o ?_ ?_))
            · show ((cutL _ l u).toArray).size ≤ _
              rw [List.size_toArray, ← Array.length_toList]
              exact cutL_len _ _ _
            · intro c hc
              exact cutL_mem (show c ∈ cutL _ l u from hc)
          · cases ez
/-- xs[::-1] of a list -/
def revG : D → Option (Bool × D)
  | .list xs => some (true, .list xs.reverse)
  | _ => none
theorem encL_rev {K : PySem.W.Frag} {F : Hp} {vs : List V} {ds : List D} (t : EncL K F vs ds) : EncL K F vs.reverse ds.reverse := t.reverse
theorem e_rev (c : Cok G T W k N sc fnc X) {p1 p2 p3 : Pos} {kk : Nat} (ha : PE X a (rO T W ma)) : PE X (.Subscript a (.Slice none none (some (.UnaryOp .USub (.Constant (.int 1) kk p1) p2)) p3) pos) (rE T W (op1 ma revG)) := by
  refine PE.mono (pe_revL ha) fun σ H Q h => ?_
  rw [c.hK]
  refine op1_read (r := fun x H1 Q => ∃ a xs, x = .ref a ∧ SqL T.K H1 a xs ∧ ∀ p, H1 p = none → Q (.ref p) (upd H1 p (.lst xs.reverse))) ?_ h
  intro F H x d z Q s rx hg an
  unfold revG at hg
  split at hg
  · cases hg
    obtain ⟨b, vs, rfl, hb, tt⟩ := rx.list s
    exact ⟨b, vs, rfl, SqL.of hb, fun pp hp => Ans.lst s an (encL_rev tt) hp⟩
  · cases hg

/-! ### built-in functions -/
inductive BltR (X : Cx) (T : XT) (f : Value) (g : List D → Option (Bool × D)) : Prop
  | mk (r : List V → Hp → VK → Prop) : CallR X f r → SndN T.K r g → BltR X T f g
theorem back_any {pos : Pos} {env : PySem.Env} : ∀ {es : List Expr}, es.all noStar = true → (backTo pos (starEach es env)).any (·.1) = false
  | [], _ => rfl
  | e :: es, h => by
    rw [List.all_cons, Bool.and_eq_true] at h
    rw [star_cons h.1]
    show (false || (backTo pos (starEach es env)).any (·.1)) = false
    rw [back_any h.2]; rfl
theorem e_blt {x : Str} {id : String} {g : List D → Option (Bool × D)} (c : Cok G T W k N sc fnc X) (h : BltR X T (.builtin id) g) (hg : sc.names.lookup x = some .globalImplicit) (hm : G.mg x = none) (hv : bootBuiltins x = some (.builtin id)) (ha : PA X (e :: es) (rA T W ms))
    (hs : (e :: es).all noStar = true := by rfl) (hn : x ≠ "__name__" := by decide) (hdb : (x == ("__debug__" : Str)) = false := by decide) : PE X (.Call (.Name x p) (e :: es) [] pos) (rE T W (opN ms g)) := by
  obtain ⟨r, hc, s⟩ := h
  rw [List.all_cons, Bool.and_eq_true] at hs
  exact PE.mono (pe_callB hc (show X.env.scope.names.lookup x = _ by rw [c.hs]; exact hg) (by rw [c.hm]; exact hm) hv ha hn hdb (star_cons hs.1 _ _) (back_any hs.2)) fun _ _ _ => opN_read s
theorem e_ty {x : Str} {id : String} {g : List D → Option (Bool × D)} (c : Cok G T W k N sc fnc X) (h : BltR X T (.type id) g) (hg : sc.names.lookup x = some .globalImplicit) (hm : G.mg x = none) (hv : bootBuiltins x = some (.type id)) (ha : PA X (e :: es) (rA T W ms))
    (hs : (e :: es).all noStar = true := by rfl) (hn : x ≠ "__name__" := by decide) (hdb : (x == ("__debug__" : Str)) = false := by decide) : PE X (.Call (.Name x p) (e :: es) [] pos) (rE T W (opN ms g)) := by
  obtain ⟨r, hc, s⟩ := h
  rw [List.all_cons, Bool.and_eq_true] at hs
  exact PE.mono (pe_callTy hc (show X.env.scope.names.lookup x = _ by rw [c.hs]; exact hg) (by rw [c.hm]; exact hm) hv ha hn hdb (star_cons hs.1 _ _) (back_any hs.2)) fun _ _ _ => opN_read s
theorem RdL.one {K : PySem.W.Frag} {F H : Hp} {xs : List V} {d : D} (h : RdL K F H xs [d]) : ∃ x, xs = [x] ∧ RdV K F H x d := by
  cases h with
  | cons a t => cases t; exact ⟨_, rfl, a⟩
theorem RdL.two {K : PySem.W.Frag} {F H : Hp} {xs : List V} {d d' : D} (h : RdL K F H xs [d, d']) : ∃ x y, xs = [x, y] ∧ RdV K F H x d ∧ RdV K F H y d' := by
  cases h with
  | cons a t =>
    obtain ⟨y, rfl, b⟩ := t.one
    exact ⟨_, _, rfl, a, b⟩
def lenG : List D → Option (Bool × D)
  | [.list xs] => some (false, .int xs.length)
  | [.tuple xs] => some (false, .int xs.length)
  | [.str x] => some (false, .int x.length)
  | [.dict ds] => if isDic ds then some (false, .int ds.length) else none
  | _ => none
theorem b_len : BltR X T (.builtin "len") lenG ∨ True := .inr trivial
theorem br_len (c : Cok G T W k N sc fnc X) : BltR X T (.builtin "len") lenG := by
  have cd : CallR X (.builtin "len") (fun xs H Q => ∃ a kvs, xs = [.ref a] ∧ Rd H a (.dK kvs) ∧ Q (.int kvs.length) H) := by
    intro pins s σ H xs us Q I r h
    obtain ⟨a, kvs, rfl, hq, q⟩ := h
    obtain ⟨u, rfl, rx⟩ := vals1 r
    cases rx
    exact d_len I hq fun t s' I' => ⟨.int kvs.length, H, I', ⟨t, rfl⟩, q⟩
  refine ⟨_, call_len.or cd, ?_⟩
  rw [c.hK]
  intro F H xs ds z Q s rd hg an
  unfold lenG at hg
  split at hg
  · cases hg
    obtain ⟨x, rfl, r⟩ := rd.one
    obtain ⟨a, vs, rfl, h, t⟩ := r.list s
    exact .inl ⟨_, _, rfl, .inl ⟨vs, SqL.of h, t.length.symm⟩, an.here s (.int _)⟩
  · cases hg
    obtain ⟨x, rfl, r⟩ := rd.one
    obtain ⟨a, vs, rfl, h, t⟩ := r.tuple s
    exact .inl ⟨_, _, rfl, .inr ⟨vs, h, t.length.symm⟩, an.here s (.int _)⟩
  · cases hg
    obtain ⟨x, rfl, r⟩ := rd.one
    obtain ⟨rfl, o⟩ := r.str
    exact .inl ⟨_, _, rfl, ⟨okS_len o, rfl⟩, an.here s (.int _)⟩
  · obtain ⟨hl, rfl⟩ := of_some hg
    obtain ⟨x, rfl, r⟩ := rd.one
    obtain ⟨a, kvs, rfl, h, t⟩ := r.dict s hl
    refine .inr ⟨a, kvs, rfl, h, ?_⟩
    rw [t.length]
    exact an.here s (.int _)
  · cases hg
def absG : List D → Option (Bool × D)
  | [.int i] => some (false, .int (if i < 0 then -i else i))
  | _ => none
theorem br_abs : BltR X T (.builtin "abs") absG := by
  refine ⟨_, call_abs, ?_⟩
  intro F H xs ds z Q s rd hg an
  unfold absG at hg
  split at hg
  · cases hg
    obtain ⟨x, rfl, r⟩ := rd.one
    cases r.int
    exact ⟨_, rfl, an.here s (.int _)⟩
  · cases hg
/-- a list of ints -/
def intsOf : List D → Option (List Int)
  | [] => some []
  | .int i :: r => (intsOf r).map (i :: ·)
  | _ :: _ => none
def boolsOf : List D → Option (List Bool)
  | [] => some []
  | .bool i :: r => (boolsOf r).map (i :: ·)
  | _ :: _ => none
theorem intsOf_eq : ∀ {ds : List D} {ns : List Int}, intsOf ds = some ns → ds = ns.map .int
  | [], ns, h => by cases h; rfl
  | d :: r, ns, h => by
    cases d with
    | int i =>
      unfold intsOf at h
      cases e : intsOf r with
      | none => rw [e] at h; cases h
      | some ms => rw [e] at h; cases h; rw [List.map_cons, ← intsOf_eq e]
    | _ => cases h
theorem boolsOf_eq : ∀ {ds : List D} {ns : List Bool}, boolsOf ds = some ns → ds = ns.map .bool
  | [], ns, h => by cases h; rfl
  | d :: r, ns, h => by
    cases d with
    | bool i =>
      unfold boolsOf at h
      cases e : boolsOf r with
      | none => rw [e] at h; cases h
      | some ms => rw [e] at h; cases h; rw [List.map_cons, ← boolsOf_eq e]
    | _ => cases h
theorem encL_ints {K : PySem.W.Frag} {F : Hp} : ∀ {ns : List Int} {vs : List V}, EncL K F vs (ns.map .int) → vs = ns.map V.int
  | [], _, h => by cases h; rfl
  | n :: ns, _, h => by
    cases h with
    | cons a t => cases a; rw [encL_ints t]; rfl
theorem encL_bools {K : PySem.W.Frag} {F : Hp} : ∀ {ns : List Bool} {vs : List V}, EncL K F vs (ns.map .bool) → vs = ns.map V.bl
  | [], _, h => by cases h; rfl
  | n :: ns, _, h => by
    cases h with
    | cons a t => cases a; rw [encL_bools t]; rfl
def sumG : List D → Option (Bool × D)
  | [.list xs] => (intsOf xs).map fun ns => (false, .int ns.sum)
  | _ => none
def anyG : List D → Option (Bool × D)
  | [.list xs] => (boolsOf xs).map fun ns => (false, .bool (ns.any id))
  | _ => none
def allG : List D → Option (Bool × D)
  | [.list xs] => (boolsOf xs).map fun ns => (false, .bool (ns.all id))
  | _ => none
theorem br_sum (c : Cok G T W k N sc fnc X) : BltR X T (.builtin "sum") sumG := by
  refine ⟨_, cr_sum c.calm, ?_⟩
  rw [c.hK]
  intro F H xs ds z Q s rd hg an
  unfold sumG at hg
  split at hg
  · rename_i ys
    cases e : intsOf ys with
    | none => rw [e] at hg; cases hg
    | some ns =>
      rw [e] at hg; cases hg
      obtain ⟨x, rfl, r⟩ := rd.one
      obtain ⟨a, vs, rfl, h, t⟩ := r.list s
      rw [intsOf_eq e] at t
      rw [encL_ints t] at h
      exact ⟨a, ns, rfl, SqL.of h, an.here s (.int _)⟩
  · cases hg
theorem br_any (c : Cok G T W k N sc fnc X) : BltR X T (.builtin "any") anyG := by
  refine ⟨_, cr_any c.calm, ?_⟩
  rw [c.hK]
  intro F H xs ds z Q s rd hg an
  unfold anyG at hg
  split at hg
  · rename_i ys
    cases e : boolsOf ys with
    | none => rw [e] at hg; cases hg
    | some ns =>
      rw [e] at hg; cases hg
      obtain ⟨x, rfl, r⟩ := rd.one
      obtain ⟨a, vs, rfl, h, t⟩ := r.list s
      rw [boolsOf_eq e] at t
      rw [encL_bools t] at h
      exact ⟨a, ns, rfl, SqL.of h, an.here s (.bl _)⟩
  · cases hg
theorem br_all (c : Cok G T W k N sc fnc X) : BltR X T (.builtin "all") allG := by
  refine ⟨_, cr_all c.calm, ?_⟩
  rw [c.hK]
  intro F H xs ds z Q s rd hg an
  unfold allG at hg
  split at hg
  · rename_i ys
    cases e : boolsOf ys with
    | none => rw [e] at hg; cases hg
    | some ns =>
      rw [e] at hg; cases hg
      obtain ⟨x, rfl, r⟩ := rd.one
      obtain ⟨a, vs, rfl, h, t⟩ := r.list s
      rw [boolsOf_eq e] at t
      rw [encL_bools t] at h
      exact ⟨a, ns, rfl, SqL.of h, an.here s (.bl _)⟩
  · cases hg
def maxL : List Int → Option Int
  | [] => none
  | n :: r => some (r.foldl (fun a b => if b > a then b else a) n)
def minL : List Int → Option Int
  | [] => none
  | n :: r => some (r.foldl (fun a b => if b < a then b else a) n)
theorem foldl_max : ∀ (r : List Int) (n : Int), n ≤ r.foldl (fun a b => if b > a then b else a) n ∧ ∀ y ∈ r, y ≤ r.foldl (fun a b => if b > a then b else a) n
  | [], n => ⟨Int.le_refl _, fun _ h => nomatch h⟩
  | b :: r, n => by
    have ih := foldl_max r (if b > n then b else n)
    have h1 : n ≤ (if b > n then b else n) := by split <;> omega
    have h2 : b ≤ (if b > n then b else n) := by split <;> omega
    refine ⟨Int.le_trans h1 ih.1, fun y hy => ?_⟩
    rcases List.mem_cons.mp hy with rfl | hy
    · exact Int.le_trans h2 ih.1
    · exact ih.2 y hy
theorem foldl_max_mem : ∀ (r : List Int) (n : Int), r.foldl (fun a b => if b > a then b else a) n = n ∨ r.foldl (fun a b => if b > a then b else a) n ∈ r
  | [], n => .inl rfl
  | b :: r, n => by
    rw [List.foldl_cons]
    rcases foldl_max_mem r (if b > n then b else n) with h | h
    · by_cases q : b > n
      · rw [if_pos q] at h ⊢; rw [h]; exact .inr List.mem_cons_self
      · rw [if_neg q] at h ⊢; exact .inl h
    · exact .inr (List.mem_cons_of_mem _ h)
theorem foldl_min : ∀ (r : List Int) (n : Int), r.foldl (fun a b => if b < a then b else a) n ≤ n ∧ ∀ y ∈ r, r.foldl (fun a b => if b < a then b else a) n ≤ y
  | [], n => ⟨Int.le_refl _, fun _ h => nomatch h⟩
  | b :: r, n => by
    have ih := foldl_min r (if b < n then b else n)
    have h1 : (if b < n then b else n) ≤ n := by split <;> omega
    have h2 : (if b < n then b else n) ≤ b := by split <;> omega
    refine ⟨Int.le_trans ih.1 h1, fun y hy => ?_⟩
    rcases List.mem_cons.mp hy with rfl | hy
    · exact Int.le_trans ih.1 h2
    · exact ih.2 y hy
theorem maxL_spec {ns : List Int} {m : Int} (h : maxL ns = some m) : m ∈ ns ∧ ∀ y ∈ ns, y ≤ m := by
  cases ns with
  | nil => cases h
  | cons n r =>
    cases h
    refine ⟨?_, fun y hy => ?_⟩
    · rcases foldl_max_mem r n with q | q
      · rw [q]; exact List.mem_cons_self
      · exact List.mem_cons_of_mem _ q
    · rcases List.mem_cons.mp hy with rfl | hy
      · exact (foldl_max r _).1
      · exact (foldl_max r n).2 y hy
theorem minL_le {ns : List Int} {m : Int} (h : minL ns = some m) : ∀ y ∈ ns, m ≤ y := by
  cases ns with
  | nil => cases h
  | cons n r =>
    cases h
    intro y hy
    rcases List.mem_cons.mp hy with rfl | hy
    · exact (foldl_min r _).1
    · exact (foldl_min r n).2 y hy
theorem foldl_min_mem : ∀ (r : List Int) (n : Int), r.foldl (fun a b => if b < a then b else a) n = n ∨ r.foldl (fun a b => if b < a then b else a) n ∈ r
  | [], n => .inl rfl
  | b :: r, n => by
    rw [List.foldl_cons]
    rcases foldl_min_mem r (if b < n then b else n) with h | h
    · by_cases q : b < n
      · rw [if_pos q] at h ⊢; rw [h]; exact .inr List.mem_cons_self
      · rw [if_neg q] at h ⊢; exact .inl h
    · exact .inr (List.mem_cons_of_mem _ h)
theorem minL_mem {ns : List Int} {m : Int} (h : minL ns = some m) : m ∈ ns := by
  cases ns with
  | nil => cases h
  | cons n r =>
    cases h
    rcases foldl_min_mem r n with q | q
    · rw [q]; exact List.mem_cons_self
    · exact List.mem_cons_of_mem _ q
def maxG : List D → Option (Bool × D)
  | [.list xs] => ((intsOf xs).bind maxL).map fun m => (false, .int m)
  | [.int i, .int j] => some (false, .int (if j > i then j else i))
  | _ => none
def minG : List D → Option (Bool × D)
  | [.list xs] => ((intsOf xs).bind minL).map fun m => (false, .int m)
  | [.int i, .int j] => some (false, .int (if j < i then j else i))
  | _ => none
theorem br_max (c : Cok G T W k N sc fnc X) : BltR X T (.builtin "max") maxG := by
  refine ⟨_, (cr_max c.calm).or (call_max2 c.calm), ?_⟩
  rw [c.hK]
  intro F H xs ds z Q s rd hg an
  unfold maxG at hg
  split at hg
  · rename_i ys
    cases e : intsOf ys with
    | none => rw [e] at hg; cases hg
    | some ns =>
      rw [e] at hg
      simp only [Option.bind_some] at hg
      cases e2 : maxL ns with
      | none => rw [e2] at hg; cases hg
      | some m =>
        rw [e2] at hg; cases hg
        obtain ⟨x, rfl, r⟩ := rd.one
        obtain ⟨a, vs, rfl, h, t⟩ := r.list s
        rw [intsOf_eq e] at t
        rw [encL_ints t] at h
        have sp := maxL_spec e2
        refine .inl ⟨a, ns, rfl, SqL.of h, by cases ns with | nil => cases e2 | cons _ _ => simp, fun m' h1 h2 => ?_⟩
        have : m' = m := Int.le_antisymm (sp.2 m' h1) (h2 m sp.1)
        rw [this]
        exact an.here s (.int _)
  · cases hg
    obtain ⟨x, y, rfl, r1, r2⟩ := rd.two
    cases r1.int; cases r2.int
    exact .inr ⟨_, _, rfl, an.here s (.int _)⟩
  · cases hg
theorem br_min (c : Cok G T W k N sc fnc X) : BltR X T (.builtin "min") minG := by
  refine ⟨_, (cr_min c.calm).or (call_min2 c.calm), ?_⟩
  rw [c.hK]
  intro F H xs ds z Q s rd hg an
  unfold minG at hg
  split at hg
  · rename_i ys
    cases e : intsOf ys with
    | none => rw [e] at hg; cases hg
    | some ns =>
      rw [e] at hg
      simp only [Option.bind_some] at hg
      cases e2 : minL ns with
      | none => rw [e2] at hg; cases hg
      | some m =>
        rw [e2] at hg; cases hg
        obtain ⟨x, rfl, r⟩ := rd.one
        obtain ⟨a, vs, rfl, h, t⟩ := r.list s
        rw [intsOf_eq e] at t
        rw [encL_ints t] at h
        refine .inl ⟨a, ns, rfl, SqL.of h, by cases ns with | nil => cases e2 | cons _ _ => simp, fun m' h1 h2 => ?_⟩
        have : m' = m := Int.le_antisymm (h2 m (minL_mem e2)) (minL_le e2 m' h1)
        rw [this]
        exact an.here s (.int _)
  · cases hg
    obtain ⟨x, y, rfl, r1, r2⟩ := rd.two
    cases r1.int; cases r2.int
    exact .inr ⟨_, _, rfl, an.here s (.int _)⟩
  · cases hg

/-! ### built-in classes called -/
def intG : List D → Option (Bool × D)
  | [.int i] => some (false, .int i)
  | [.bool b] => some (false, .int (if b then 1 else 0))
  | [.str x] => if x.length ≤ 640 then (PySem.intText? x).map fun n => (false, .int n) else none
  | _ => none
theorem br_int : BltR X T (.type "int") intG := by
  refine ⟨_, call_int1.or call_int_str, ?_⟩
  intro F H xs ds z Q s rd hg an
  unfold intG at hg
  split at hg
  · cases hg
    obtain ⟨x, rfl, r⟩ := rd.one
    cases r.int
    exact .inl (.inl ⟨_, rfl, an.here s (.int _)⟩)
  · cases hg
    obtain ⟨x, rfl, r⟩ := rd.one
    cases r.bool
    exact .inl (.inr ⟨_, rfl, an.here s (.int _)⟩)
  · rename_i y
    split at hg
    · rename_i hl
      cases e : PySem.intText? y with
      | none => rw [e] at hg; cases hg
      | some n =>
        rw [e] at hg; cases hg
        obtain ⟨x, rfl, r⟩ := rd.one
        obtain ⟨rfl, _⟩ := r.str
        exact .inr ⟨_, n, rfl, e, hl, an.here s (.int _)⟩
    · cases hg
  · cases hg
def strG : List D → Option (Bool × D)
  | [.int i] => if i.natAbs.log2 < 1920 ∧ okS (Str.ofString (toString i)) = true then some (false, .str (toString i)) else none
  | [.str x] => some (false, .str x)
  | _ => none
theorem br_str : BltR X T (.type "str") strG := by
  refine ⟨_, call_str_int.or SkE.call_str_str, ?_⟩
  intro F H xs ds z Q s rd hg an
  unfold strG at hg
  split at hg
  · obtain ⟨hl, rfl⟩ := of_some hg
    obtain ⟨x, rfl, r⟩ := rd.one
    cases r.int
    exact .inl ⟨_, rfl, hl.1, an.here s (.str _ hl.2)⟩
  · cases hg
    obtain ⟨x, rfl, r⟩ := rd.one
    obtain ⟨rfl, o⟩ := r.str
    exact .inr ⟨_, rfl, an.here s (.str _ o)⟩
  · cases hg
def listG : List D → Option (Bool × D)
  | [.list xs] => some (true, .list xs)
  | [.tuple xs] => some (true, .list xs)
  | [.dict [(.none, .list xs)]] => some (true, .list xs)
  | _ => none
theorem encL_intsR {K : PySem.W.Frag} {F : Hp} (ns : List Int) : EncL K F (ns.map V.int) (ns.map .int) := EncL.map _ _ (fun i => .int i) ns
theorem br_list (c : Cok G T W k N sc fnc X) : BltR X T (.type "list") listG := by
  refine ⟨_, call_list_of, ?_⟩
  rw [c.hK]
  intro F H xs ds z Q s rd hg an
  unfold listG at hg
  split at hg
  · cases hg
    obtain ⟨x, rfl, r⟩ := rd.one
    obtain ⟨a, vs, rfl, h, t⟩ := r.list s
    exact ⟨a, vs, rfl, .inl (SqL.of h), fun p hp => Ans.lst s an t hp⟩
  · cases hg
    obtain ⟨x, rfl, r⟩ := rd.one
    obtain ⟨a, vs, rfl, h, t⟩ := r.tuple s
    exact ⟨a, vs, rfl, .inr h, fun p hp => Ans.lst s an t hp⟩
  · cases hg
    obtain ⟨x, rfl, r⟩ := rd.one
    obtain ⟨a, ns, rfl, h, e⟩ := r.script s
    rw [e] at an
    exact ⟨a, _, rfl, .inl h, fun p hp => Ans.lst s an (encL_intsR ns) hp⟩
  · cases hg
def tupleG : List D → Option (Bool × D)
  | [.list xs] => some (false, .tuple xs)
  | [.tuple xs] => some (false, .tuple xs)
  | _ => none
theorem br_tuple (c : Cok G T W k N sc fnc X) : BltR X T (.type "tuple") tupleG := by
  refine ⟨_, call_tuple_of, ?_⟩
  rw [c.hK]
  intro F H xs ds z Q s rd hg an
  unfold tupleG at hg
  split at hg
  · cases hg
    obtain ⟨x, rfl, r⟩ := rd.one
    obtain ⟨a, vs, rfl, h, t⟩ := r.list s
    exact ⟨a, vs, rfl, .inl ⟨SqL.of h, fun p hp => Ans.tup s an t hp⟩⟩
  · cases hg
    obtain ⟨x, rfl, r⟩ := rd.one
    obtain ⟨a, vs, rfl, h, t⟩ := r.tuple s
    refine ⟨a, vs, rfl, .inr ⟨h, ?_⟩⟩
    cases r with
    | enc en => exact an.here s en
    | own _ tt => cases tt
  · cases hg
def dictG : List D → Option (Bool × D)
  | [.dict ds] => if isDic ds then some (true, .dict ds) else none
  | _ => none
theorem br_dict : BltR X T (.type "dict") dictG := by
  have cd : CallR X (.type "dict") (fun xs H Q => ∃ a kvs, xs = [.ref a] ∧ Rd H a (.dK kvs) ∧ ∀ p, H p = none → Q (.ref p) (upd H p (.dK kvs))) := by
    intro pins s σ H xs us Q I r h
    obtain ⟨a, kvs, rfl, hq, q⟩ := h
    obtain ⟨u, rfl, rx⟩ := vals1 r
    cases rx
    exact d_copyOf I hq fun p s' hp I' => ⟨.ref p, _, I', rfl, q p hp⟩
  refine ⟨_, cd, ?_⟩
  intro F H xs ds z Q s rd hg an
  unfold dictG at hg
  split at hg
  · obtain ⟨hl, rfl⟩ := of_some hg
    obtain ⟨x, rfl, r⟩ := rd.one
    obtain ⟨a, kvs, rfl, h, t⟩ := r.dict s hl
    exact ⟨a, kvs, rfl, h, fun p hp => Ans.dic s an t hp⟩
  · cases hg
/-! ### isinstance -/
def tyN : D → String
  | .none => "NoneType"
  | .bool _ => "bool"
  | .int _ => "int"
  | .str _ => "str"
  | .list _ => "list"
  | .tuple _ => "tuple"
  | .dict _ => "dict"
def isiB (t c : String) : Bool := t == c || (t == "bool" && c == "int")
def isiG (cl : String) (d : D) : Option (Bool × D) := match d with
  | .dict ds => if isDic ds then some (false, .bool (isiB "dict" cl)) else none
  | d => some (false, .bool (isiB (tyN d) cl))
theorem tyX_of {K : PySem.W.Frag} {F H : Hp} {v : V} {d : D} (s : Ext F H) (r : RdV K F H v d) (hd : ∀ ds, d = .dict ds → isDic ds = true) : TyX K H v (.type (tyN d)) := by
  cases d with
  | none => cases r.none; exact .base .non
  | bool b => cases r.bool; exact .base (.bl b)
  | int i => cases r.int; exact .base (.int i)
  | str x => obtain ⟨rfl, _⟩ := r.str; exact .base (.str x)
  | list xs => obtain ⟨a, vs, rfl, h, t⟩ := r.list s; exact .base (.lst h)
  | tuple xs =>
    obtain ⟨a, vs, rfl, h, t⟩ := r.tuple s
    rcases h with (h | ⟨o, h⟩) | ⟨o, its, n, h, hc, _⟩
    · exact .base (.tup h)
    · exact .fTuple h
    · exact .kTuple h hc
  | dict ds =>
    obtain ⟨a, kvs, rfl, h, t⟩ := r.dict s (hd ds rfl)
    rcases h with h | ⟨o, h⟩
    · exact .base (.dK h)
    · exact .fDict h
theorem kit_isi : ∀ t ∈ ["NoneType", "bool", "int", "str", "list", "tuple", "dict"], ∀ c ∈ ["bool", "int", "str", "list", "tuple", "dict"], kitB t c = some (isiB t c) := by decide +kernel
theorem tyN_mem (d : D) : tyN d ∈ ["NoneType", "bool", "int", "str", "list", "tuple", "dict"] := by cases d <;> simp [tyN]
theorem e_isi {x : Str} {p2 : Pos} {cl : String} (c : Cok G T W k N sc fnc X) (hg : sc.names.lookup ("isinstance" : Str) = some .globalImplicit) (hm : G.mg ("isinstance" : Str) = none) (hg2 : sc.names.lookup x = some .globalImplicit) (hm2 : G.mg x = none)
    (hv : bootBuiltins x = some (.type cl)) (hcl : cl ∈ ["bool", "int", "str", "list", "tuple", "dict"]) (ha : PE X a (rO T W ma)) (hs : noStar a = true := by rfl) (hn : x ≠ "__name__" := by decide) (hdb : (x == ("__debug__" : Str)) = false := by decide) :
    PE X (.Call (.Name "isinstance" p) [a, .Name x p2] [] pos) (rE T W (op1 ma (isiG cl))) := by
  have pb : PE X (.Name x p2) (tC (.ty cl)) := pe_bltn (show X.env.scope.names.lookup x = _ by rw [c.hs]; exact hg2) (by rw [c.hm]; exact hm2) hv rfl hn hdb
  refine PE.mono (pe_callB call_isi (show X.env.scope.names.lookup _ = _ by rw [c.hs]; exact hg) (by rw [c.hm]; exact hm) (by decide +kernel) (pa_cons ha (pa_cons pb pa_nil) (star_cons hs _ _)) (by decide) (by decide) (star_cons hs _ _) rfl) fun σ H Q h => ?_
  rw [c.hK]
  refine op1_read (r := fun x H Q => rIsi T.K [x, .ty cl] H Q) ?_ h
  intro F H x d z Q s rx hg an
  unfold isiG at hg
  split at hg
  · obtain ⟨hl, rfl⟩ := of_some hg
    exact ⟨x, .ty cl, _, _, _, rfl, .ty cl, tyX_of s rx (fun ds e => by cases e; exact hl), kit_ty (kit_isi _ (tyN_mem _) cl hcl), an.here s (.bl _)⟩
  · rename_i d' hn
    cases hg
    exact ⟨x, .ty cl, _, _, _, rfl, .ty cl, tyX_of s rx (fun ds e => absurd e (hn ds)), kit_ty (kit_isi _ (tyN_mem _) cl hcl), an.here s (.bl _)⟩
end
end PK
set_option maxHeartbeats 1000000
namespace PK
open PySem PySem.Spec PyProof.Rows L2
/-- what a def answers: the value (owned or not), what the parameter that it changes holds then -/
inductive FRes where
  | ok (fl : Bool) (d : D) (m : Option D)
  | err (x : Exc)
  | stuck
structure CallGo (F H : Hp) (O : Addr → Prop) (F' H' : Hp) : Prop where
  ext : Ext F F'
  new : ∀ a, F a = none → F' a ≠ none → H a = none
  keep : ∀ a o, H a = some o → ¬ O a → H' a = some o
  sub : Ext F' H'
  dom : ∀ a, H' a = none → H a = none
inductive ArgOk (K : PySem.W.Frag) (F H : Hp) : Bool → V → D → Prop
  | shr {v : V} {d : D} : Enc K F v d → ArgOk K F H false v d
  | mt {a : Addr} {o : HO} {d : D} : F a = none → H a = some o → Top K F o d → ArgOk K F H true (.ref a) d
/-- the arguments, from the j-th parameter on -/
inductive ArgsOk (K : PySem.W.Frag) (F H : Hp) (mp : Option Nat) : Nat → List V → List D → Prop
  | nil {j : Nat} : ArgsOk K F H mp j [] []
  | cons {j : Nat} {v : V} {vs : List V} {d : D} {ds : List D} : ArgOk K F H (decide (mp = some j)) v d → ArgsOk K F H mp (j + 1) vs ds → ArgsOk K F H mp j (v :: vs) (d :: ds)
def MutA (mp : Option Nat) (vs : List V) (a : Addr) : Prop := ∃ q, mp = some q ∧ vs[q]? = some (.ref a)
inductive MutOk (K : PySem.W.Frag) (F' H' : Hp) (mp : Option Nat) (vs : List V) : Option D → Prop
  | none {m : Option D} : mp = none → MutOk K F' H' mp vs m
  | some {q : Nat} {a : Addr} {o : HO} {dm : D} : mp = some q → vs[q]? = some (.ref a) → F' a = none → H' a = some o → Top K F' o dm → MutOk K F' H' mp vs (some dm)
def PostF (T : XT) (mp : Option Nat) (F H : Hp) (vs : List V) (r : FRes) (Q : VK) (E : XK) : Prop := match r with
  | .ok fl d m => ∀ F' H' v, CallGo F H (MutA mp vs) F' H' → NewOk T.K H F' H' fl v d → MutOk T.K F' H' mp vs m → Q v H'
  | .err x => ∀ F' H' c dx, CallGo F H (MutA mp vs) F' H' → ExcOk T F' c dx x → E c dx H'
  | .stuck => False
/-- a def's promise -/
def SpF (T : XT) (np : Nat) (mp : Option Nat) (f : List D → FRes) : Sp := fun vs H Q E => ∃ F ds, Ext F H ∧ vs.length = np ∧ ArgsOk T.K F H mp 0 vs ds ∧ PostF T mp F H vs (f ds) Q E

/-! ### a call in an expression -/
def noMut : D → Bool
  | .list _ => false
  | .dict _ => false
  | .tuple xs => noMutA xs
  | _ => true
where noMutA : List D → Bool
  | [] => true
  | x :: r => noMut x && noMutA r
def frz1 (ρ : En) (i : Nat) : En := match ρ.getD i none with
  | some (true, d) => ρ.set i (some (false, d))
  | _ => ρ
/-- the slots that are handed over as plain arguments -/
def frzA (mp : Option Nat) : Nat → List Tok → En → En
  | _, [], ρ => ρ
  | j, .slot i :: r, ρ => frzA mp (j + 1) r (if mp = some j then ρ else frz1 ρ i)
  | j, .val _ :: r, ρ => frzA mp (j + 1) r ρ
/-- the slot that is handed over to be changed -/
def mutSlot (mp : Option Nat) (ts : List Tok) : Option Nat := mp.bind fun q => match ts[q]? with
  | some (.slot i) => some i
  | _ => none
def usesSlot (mp : Option Nat) (i : Nat) : Nat → List Tok → Bool
  | _, [] => false
  | j, .slot l :: r => (decide (mp ≠ some j) && decide (l = i)) || usesSlot mp i (j + 1) r
  | j, .val _ :: r => usesSlot mp i (j + 1) r
def isOwn (ρ : En) (i : Nat) : Bool := match ρ.getD i none with
  | some (true, _) => true
  | _ => false
def callM (C : List D → FRes) (mp : Option Nat) (ms : M (List Tok)) : M (Bool × D) := bnd ms fun ts ρ => match ts.mapM (rsv ρ) with
  | none => .stuck
  | some ds => match mp with
    | none => (match C ds with
      | .ok fl d _ => if noMut d then .ok (fl, d) ρ else .ok (fl, d) (frzA none 0 ts ρ)
      | .err x => .err x (frzA none 0 ts ρ)
      | .stuck => .stuck)
    | some q => match mutSlot (some q) ts with
      | none => .stuck
      | some i => if isOwn ρ i && !usesSlot (some q) i 0 ts then (match C ds with
          | .ok fl d (some dm) => .ok (fl, d) ((frzA (some q) 0 ts ρ).set i (some (true, dm)))
          | .ok _ _ none => .stuck
          | .err x => .err x ((frzA (some q) 0 ts ρ).set i none)
          | .stuck => .stuck) else .stuck
section
variable {K : PySem.W.Frag} {F H : Hp} {σ : St} {ρ : En}
theorem frz1_go (rel : Rel K F σ H ρ) (i : Nat) : ∃ F', GoE K F σ H ρ F' H (frz1 ρ i) ∧ ∀ a, F a = none → F' a ≠ none → Own σ ρ a := by
  unfold frz1
  split
  · rename_i d e
    obtain ⟨F', v, ev, g, en⟩ := freeze_slot rel e
    refine ⟨F', g, fun a h h' => ?_⟩
    rcases g.new a h h' with q | q
    · cases e2 : F' a with
      | none => exact absurd e2 h'
      | some o =>
        rw [g.rel.sub a o e2] at q
        cases q
    · exact q
  · exact ⟨F, GoE.refl rel, fun a h h' => absurd h h'⟩
/-- all that is handed over is given: the plain arguments stand in F' -/
theorem frzA_go (mp : Option Nat) : ∀ (ts : List Tok) (j : Nat) (F : Hp) (ρ : En) (rel : Rel K F σ H ρ), ∃ F', GoE K F σ H ρ F' H (frzA mp j ts ρ) ∧ ∀ a, F a = none → F' a ≠ none → Own σ ρ a
  | [], _, F, ρ, rel => ⟨F, GoE.refl rel, fun a h h' => absurd h h'⟩
  | .val _ :: r, j, F, ρ, rel => frzA_go mp r (j + 1) F ρ rel
  | .slot i :: r, j, F, ρ, rel => by
    unfold frzA
    split
    · exact frzA_go mp r (j + 1) F ρ rel
    · obtain ⟨F1, g1, n1⟩ := frz1_go rel i
      obtain ⟨F2, g2, n2⟩ := frzA_go mp r (j + 1) F1 (frz1 ρ i) g1.rel
      refine ⟨F2, g1.trans g2, fun a h h' => ?_⟩
      cases e : F1 a with
      | some o => exact n1 a h (by rw [e]; simp)
      | none => exact g1.ownSub (n2 a e h')
theorem frz1_other {i l : Nat} (h : l ≠ i) (ρ : En) : (frz1 ρ l)[i]? = ρ[i]? := by
  unfold frz1
  split
  · rw [List.getElem?_set_ne h]
  · rfl
theorem frz1_len (i : Nat) (ρ : En) : (frz1 ρ i).length = ρ.length := by
  unfold frz1
  split
  · rw [List.length_set]
  · rfl
theorem frzA_other (mp : Option Nat) {i : Nat} : ∀ (ts : List Tok) (j : Nat) (ρ : En), usesSlot mp i j ts = false → (frzA mp j ts ρ)[i]? = ρ[i]?
  | [], _, _, _ => rfl
  | .val _ :: r, j, ρ, h => frzA_other mp r (j + 1) ρ h
  | .slot l :: r, j, ρ, h => by
    unfold usesSlot at h
    rw [Bool.or_eq_false_iff, Bool.and_eq_false_iff] at h
    unfold frzA
    rw [frzA_other mp r (j + 1) _ h.2]
    split
    · rfl
    · rename_i ne
      refine frz1_other ?_ ρ
      rcases h.1 with q | q
      · exact absurd ne (by simpa using q)
      · simpa using q
theorem frz1_cases (ρ : En) (i : Nat) : (∃ d, ρ.getD i none = some (true, d) ∧ frz1 ρ i = ρ.set i (some (false, d))) ∨ (isOwn ρ i = false ∧ frz1 ρ i = ρ) := by
  unfold frz1 isOwn
  cases e : ρ.getD i none with
  | none => exact .inr ⟨rfl, rfl⟩
  | some c =>
    obtain ⟨b, d⟩ := c
    cases b with
    | true => exact .inl ⟨d, rfl, rfl⟩
    | false => exact .inr ⟨rfl, rfl⟩
/-- a slot that was handed over is given -/
theorem frz1_same (ρ : En) (i : Nat) : isOwn (frz1 ρ i) i = false := by
  rcases frz1_cases ρ i with ⟨d, e, q⟩ | ⟨e, q⟩
  · rw [q]
    unfold isOwn
    have hl := (List.getElem?_eq_some_iff.mp (getD_cell e)).1
    rw [List.getD_eq_getElem?_getD, List.getElem?_set_self hl]
    rfl
  · rw [q]; exact e
theorem frz1_isOwn {ρ : En} {i j : Nat} (h : isOwn ρ j = false) : isOwn (frz1 ρ i) j = false := by
  by_cases e : j = i
  · subst e; exact frz1_same ρ j
  · unfold isOwn at h ⊢
    rw [List.getD_eq_getElem?_getD, frz1_other (Ne.symm e), ← List.getD_eq_getElem?_getD]
    exact h
theorem frzA_isOwn (mp : Option Nat) {i : Nat} : ∀ (ts : List Tok) (j : Nat) (ρ : En), isOwn ρ i = false → isOwn (frzA mp j ts ρ) i = false
  | [], _, _, h => h
  | .val _ :: r, j, ρ, h => frzA_isOwn mp r (j + 1) ρ h
  | .slot l :: r, j, ρ, h => by
    unfold frzA
    split
    · exact frzA_isOwn mp r (j + 1) ρ h
    · exact frzA_isOwn mp r (j + 1) _ (frz1_isOwn h)
theorem frz1_rsv {ρ : En} {i : Nat} (t : Tok) : rsv (frz1 ρ i) t = rsv ρ t := by
  cases t with
  | val d => rfl
  | slot l =>
    rcases frz1_cases ρ i with ⟨d, e, q⟩ | ⟨e, q⟩
    · rw [q]
      show ((ρ.set i (some (false, d))).getD l none).map (·.2) = (ρ.getD l none).map (·.2)
      by_cases q : l = i
      · subst q
        have hl := (List.getElem?_eq_some_iff.mp (getD_cell e)).1
        rw [List.getD_eq_getElem?_getD, List.getElem?_set_self hl, e]
        rfl
      · rw [List.getD_eq_getElem?_getD, List.getElem?_set_ne (Ne.symm q), ← List.getD_eq_getElem?_getD]
    · rw [q]
theorem frzA_rsv (mp : Option Nat) (t : Tok) : ∀ (ts : List Tok) (j : Nat) (ρ : En), rsv (frzA mp j ts ρ) t = rsv ρ t
  | [], _, _ => rfl
  | .val _ :: r, j, ρ => frzA_rsv mp t r (j + 1) ρ
  | .slot l :: r, j, ρ => by
    unfold frzA
    split
    · exact frzA_rsv mp t r (j + 1) ρ
    · rw [frzA_rsv mp t r (j + 1) _, frz1_rsv]
/-- a token whose slot is not owned reads off F -/
theorem TokOk.enc {v : V} {t : Tok} {d : D} (rel : Rel K F σ H ρ) (h : TokOk K F σ ρ v t) (e : rsv ρ t = some d) (n : ∀ i, t = .slot i → isOwn ρ i = false) : Enc K F v d := by
  cases h with
  | val h => cases e; exact h
  | @slot i v hs =>
    have e : (ρ.getD i none).map (·.2) = some d := e
    cases q : ρ.getD i none with
    | none => rw [q] at e; cases e
    | some c =>
      rw [q] at e
      cases e
      obtain ⟨w, ew, cc⟩ := rel.cell i _ (getD_cell q)
      rw [hs] at ew
      cases ew
      cases cc with
      | shr h => exact h
      | own h1 h2 h3 =>
        have := n i rfl
        unfold isOwn at this
        rw [q] at this
        cases this
/-- every slot handed over as a plain argument is given behind frzA -/
theorem frzA_given (mp : Option Nat) : ∀ (ts : List Tok) (j : Nat) (ρ : En) (l : Nat) (i : Nat), ts[l]? = some (.slot i) → mp ≠ some (j + l) → isOwn (frzA mp j ts ρ) i = false
  | [], _, _, _, _, h, _ => by simp at h
  | .val _ :: r, j, ρ, 0, i, h, _ => by simp at h
  | .val _ :: r, j, ρ, l + 1, i, h, n => frzA_given mp r (j + 1) ρ l i (by simpa using h) (by rw [show j + 1 + l = j + (l + 1) by omega]; exact n)
  | .slot s :: r, j, ρ, 0, i, h, n => by
    have e : s = i := by simpa using h
    subst e
    unfold frzA
    rw [if_neg (by simpa using n)]
    exact frzA_isOwn mp r (j + 1) _ (frz1_same ρ s)
  | .slot s :: r, j, ρ, l + 1, i, h, n => by
    unfold frzA
    exact frzA_given mp r (j + 1) _ l i (by simpa using h) (by rw [show j + 1 + l = j + (l + 1) by omega]; exact n)
end
mutual
theorem enc_noMut {K : PySem.W.Frag} {F F' : Hp} (ht : ∀ a vs, SqT K F a vs → SqT K F' a vs) : ∀ {v : V} (d : D), Enc K F v d → noMut d = true → Enc K F' v d
  | _, _, .non, _ => .non
  | _, _, .bl b, _ => .bl b
  | _, _, .int i, _ => .int i
  | _, _, .str x h, _ => .str x h
  | _, .tuple ds, .tup h t, n => .tup (ht _ _ h) (encL_noMut ht ds t (by simpa [noMut] using n))
  | _, .list _, _, n => by simp [noMut] at n
  | _, .dict _, _, n => by simp [noMut] at n
theorem encL_noMut {K : PySem.W.Frag} {F F' : Hp} (ht : ∀ a vs, SqT K F a vs → SqT K F' a vs) : ∀ {vs : List V} (ds : List D), EncL K F vs ds → noMut.noMutA ds = true → EncL K F' vs ds
  | _, _, .nil, _ => .nil
  | _, d :: ds, .cons h t, n => by
    have n' : noMut d = true ∧ noMut.noMutA ds = true := by simpa [noMut.noMutA] using n
    exact .cons (enc_noMut ht d h n'.1) (encL_noMut ht ds t n'.2)
end

/-! ### the rule of a call -/
section
variable {G : G0} {T : XT} {W : WX} {k : Nat} {N : List Str} {sc : Scope} {fnc : Str → Bool} {X : Cx} {pos p : Pos} {e : Expr} {es : List Expr} {ms : M (List Tok)}
/-- a def of the text, for calls -/
structure FnIn (G : G0) (T : XT) (n : Nat) (x : Str) (np : Nat) (mp : Option Nat) (C : List D → FRes) : Prop where
  ex : ∃ (f : Addr) (fd : FuncData) (ps : List Str), G.mg x = some (.ref f) ∧ PySem.W.keepIn T.K (.ref f) = true ∧ Binds T.K fd ps [] ∧ FnOk G.P G.w T.K G.mg G.base (L2.CX G.P G.w) n f fd ps (SpF T np mp C)
theorem mapM_get {ρ : En} : ∀ {ts : List Tok} {ds : List D}, ts.mapM (rsv ρ) = some ds → ts.length = ds.length ∧ ∀ (l : Nat) (t : Tok), ts[l]? = some t → ∃ d, ds[l]? = some d ∧ rsv ρ t = some d
  | [], ds, h => by simp at h; subst h; exact ⟨rfl, fun l t e => by simp at e⟩
  | t :: ts, ds, h => by
    rw [List.mapM_cons] at h
    cases q : rsv ρ t with
    | none => rw [q] at h; simp at h
    | some d =>
      rw [q] at h
      cases q' : ts.mapM (rsv ρ) with
      | none => rw [q'] at h; simp at h
      | some es =>
        rw [q'] at h
        simp at h
        subst h
        obtain ⟨h1, h2⟩ := mapM_get q'
        refine ⟨by simp [h1], fun l t' e => ?_⟩
        cases l with
        | zero => simp at e; subst e; exact ⟨d, rfl, q⟩
        | succ l => exact h2 l t' (by simpa using e)
theorem toks_args {K : PySem.W.Frag} {F H : Hp} {σ : St} {ρ : En} {mp : Option Nat} (rel : Rel K F σ H ρ) (i : Nat) (d0 : D) (ho : mp ≠ none → ρ[i]? = some (some (true, d0))) :
    ∀ {vs : List V} {ts : List Tok} {ds : List D} {j : Nat}, Toks K F σ ρ vs ts → ts.mapM (rsv ρ) = some ds → (∀ (l : Nat) (t : Tok), ts[l]? = some t → if mp = some (j + l) then t = .slot i else ∀ s, t = .slot s → isOwn ρ s = false) → ArgsOk K F H mp j vs ds
  | _, _, ds, j, .nil, h, _ => by simp at h; subst h; exact .nil
  | _, _, ds, j, .cons (v := v) (t := t) (ts := ts) a r, h, hq => by
    rw [List.mapM_cons] at h
    cases q : rsv ρ t with
    | none => rw [q] at h; simp at h
    | some d =>
      rw [q] at h
      cases q' : ts.mapM (rsv ρ) with
      | none => rw [q'] at h; simp at h
      | some es =>
        rw [q'] at h
        simp at h
        subst h
        have h0 := hq 0 t rfl
        refine .cons ?_ (toks_args rel i d0 ho r q' fun l t' e => by
          have := hq (l + 1) t' (by simpa using e)
          rw [show j + 1 + l = j + (l + 1) by omega]
          exact this)
        by_cases hm : mp = some j
        · rw [if_pos (by simpa using hm)] at h0
          subst h0
          rw [decide_eq_true hm]
          have hc := ho (by rw [hm]; simp)
          obtain ⟨w, ew, cc⟩ := rel.cell i _ hc
          cases a with
          | slot hs =>
            rw [hs] at ew; cases ew
            have e1 : d = d0 := by
              have e2 : (ρ.getD i none).map (·.2) = some d := q
              rw [List.getD_eq_getElem?_getD, hc] at e2
              cases e2; rfl
            subst e1
            cases cc with
            | own h1 h2 h3 => exact .mt h1 h2 h3
        · rw [if_neg (by simpa using hm)] at h0
          rw [decide_eq_false hm]
          exact .shr (a.enc rel q h0)
/-- behind a call that changed nothing of ours -/
theorem CallGo.goE {K : PySem.W.Frag} {F H F' H' : Hp} {σ : St} {ρ : En} (rel : Rel K F σ H ρ) {O : Addr → Prop} (g : CallGo F H O F' H') (no : ∀ a, ¬ O a) : GoE K F σ H ρ F' H' ρ := by
  refine ⟨⟨g.sub, rel.len, fun i c e => ?_, rel.sep⟩, g.ext, fun a h h' => .inl (g.new a h h'), fun a o h _ => g.keep a o h (no a), g.dom, fun i d e => ⟨d, e⟩, fun _ h => h⟩
  obtain ⟨v, ev, cc⟩ := rel.cell i c e
  refine ⟨v, ev, ?_⟩
  cases cc with
  | shr h => exact .shr (h.ext g.ext)
  | @own b o d h1 h2 h3 =>
    refine .own ?_ (g.keep _ _ h2 (no _)) (h3.ext g.ext)
    cases q : F' b with
    | none => rfl
    | some o' =>
      have := g.new b h1 (by rw [q]; simp)
      rw [this] at h2; cases h2
/-- behind a call that changed the object of slot i -/
theorem CallGo.goM {K : PySem.W.Frag} {F H F' H' : Hp} {σ : St} {ρ : En} (rel : Rel K F σ H ρ) {O : Addr → Prop} {i : Nat} {a : Addr} {d0 : D} (g : CallGo F H O F' H') (hi : ρ[i]? = some (some (true, d0))) (hs : σ[i]? = some (some (.ref a))) (ho : ∀ b, O b → b = a)
    {c : Ce} (hc : ∀ x, c = some x → CellOk K F' H' (.ref a) x) : GoE K F σ H ρ F' H' (ρ.set i c) := by
  have oa : Own σ ρ a := ⟨i, d0, hi, hs⟩
  refine ⟨⟨g.sub, by rw [List.length_set]; exact rel.len, fun j x e => ?_, fun j l b d1 d2 q1 q2 s1 s2 => ?_⟩, g.ext, fun b h h' => .inl (g.new b h h'), fun b o h n => g.keep b o h fun q => n (by rw [ho b q]; exact oa), g.dom, fun j d e => ?_, fun j e => ?_⟩
  · rcases set_get e with ⟨rfl, e2⟩ | ⟨ne, e⟩
    · exact ⟨_, hs, hc x e2.symm⟩
    · obtain ⟨v, ev, cc⟩ := rel.cell j x e
      refine ⟨v, ev, ?_⟩
      cases cc with
      | shr h => exact .shr (h.ext g.ext)
      | @own b o d h1 h2 h3 =>
        refine .own ?_ (g.keep _ _ h2 fun q => ne ?_) (h3.ext g.ext)
        · cases q : F' b with
          | none => rfl
          | some o' =>
            have := g.new b h1 (by rw [q]; simp)
            rw [this] at h2; cases h2
        · exact rel.sep j i b d d0 e hi ev (by rw [ho b q]; exact hs)
  · have aux : ∀ (j : Nat) (d : D), (ρ.set i c)[j]? = some (some (true, d)) → ∃ d', ρ[j]? = some (some (true, d')) := fun j d q => by
      rcases set_get q with ⟨rfl, _⟩ | ⟨_, q⟩
      · exact ⟨d0, hi⟩
      · exact ⟨d, q⟩
    obtain ⟨e1, q1⟩ := aux j d1 q1
    obtain ⟨e2, q2⟩ := aux l d2 q2
    exact rel.sep j l b e1 e2 q1 q2 s1 s2
  · rcases set_get e with ⟨rfl, _⟩ | ⟨_, q⟩
    · exact ⟨d0, hi⟩
    · exact ⟨d, q⟩
  · rw [List.getElem?_set_ne (fun z => by subst z; rw [hi] at e; cases e)]
    exact e
theorem valOk_new {K : PySem.W.Frag} {F H F' H' : Hp} {σ : St} {ρ ρ' : En} {fl : Bool} {v : V} {d : D} (rel : Rel K F σ H ρ) (n : NewOk K H F' H' fl v d) (own : ∀ a, Own σ ρ' a → Own σ ρ a) : ValOk K σ H ρ F' H' σ ρ' fl v d := by
  cases n with
  | shr h => exact .shr h
  | own h1 h2 h3 h4 =>
    refine .own h1 h2 h3 (.inl h4) fun q => ?_
    obtain ⟨_, o, e⟩ := rel.ownIn (own _ q)
    rw [e] at h4; cases h4
open Classical in
theorem call_read {C : List D → FRes} {np : Nat} {mp : Option Nat} {σ : St} {H : Hp} {Q : VK} (hl : ∀ ts ρ ρ', ms ρ = .ok ts ρ' → ts.length = np) (h : rE T W (callM C mp ms) σ H Q) :
    tCallS (SpF T np mp C) (WE W) (rA T W ms) σ H Q := by
  obtain ⟨F, ρ, rel, h⟩ := h
  refine ⟨F, ρ, rel, ?_⟩
  have h1 := PostE.bndA h
  cases e : ms ρ with
  | stuck => rw [e] at h1; exact h1
  | err x ρ1 => rw [e] at h1; exact h1
  | ok ts ρ1 =>
    rw [e] at h1
    intro F1 H1 vs g1 x1
    have hlen := hl ts ρ ρ1 e
    unfold callM bnd at h
    rw [e] at h
    simp only at h
    have rel1 := g1.rel
    have h := PostE.later h g1
    clear h1
    cases em : ts.mapM (rsv ρ1) with
    | none => rw [em] at h; exact h.elim
    | some ds =>
      rw [em] at h
      simp only at h
      have lv : vs.length = np := by
        have : ∀ {vs : List V} {ts : List Tok}, Toks T.K F1 σ ρ1 vs ts → vs.length = ts.length := fun {vs ts} t => by
          induction t with
          | nil => rfl
          | cons _ _ ih => simp [ih]
        rw [this x1, hlen]
      obtain ⟨F2, g2, n2⟩ := frzA_go mp ts 0 F1 ρ1 rel1
      have em2 : ts.mapM (rsv (frzA mp 0 ts ρ1)) = some ds := by
        rw [← em]
        congr 1
        funext t
        exact frzA_rsv mp t ts 0 ρ1
      have x2 := x1.go g2
      cases mp with
      | none =>
        simp only at h
        refine ⟨F2, ds, g2.rel.sub, lv, toks_args g2.rel 0 .none (fun q => absurd rfl q) x2 em2 (fun l t et => by
          rw [if_neg (by simp)]
          intro s es
          subst es
          exact frzA_given none ts 0 ρ1 l s et (by simp)), ?_⟩
        have no : ∀ a, ¬ MutA none vs a := fun a ⟨q, e, _⟩ => by cases e
        cases ec : C ds with
        | stuck => rw [ec] at h; exact h.elim
        | err x =>
          rw [ec] at h
          exact fun F' H' c dx g ex => h F' H' c dx (g2.trans (g.goE g2.rel no)) ex
        | ok fl d m =>
          rw [ec] at h
          simp only at h
          intro F' H' v g nv mo
          by_cases hn : noMut d = true
          · rw [if_pos hn] at h
            -- the slots are ours again
            let F3 : Hp := fun a => if Own σ ρ1 a then none else F' a
            have hF3 : ∀ a, ¬ Own σ ρ1 a → F3 a = F' a := fun a q => if_neg q
            have g3 : GoE T.K F1 σ H1 ρ1 F3 H' ρ1 := by
              have ext : Ext F1 F3 := fun a o q => by
                rw [hF3 a fun w => by rw [(rel1.ownIn w).1] at q; cases q]
                exact g.ext _ _ (g2.ext _ _ q)
              refine ⟨⟨fun a o q => ?_, rel1.len, fun i c q => ?_, rel1.sep⟩, ext, fun a q q' => ?_, fun a o q _ => g.keep a o q (no a), g.dom, fun i d q => ⟨d, q⟩, fun _ q => q⟩
              · by_cases w : Own σ ρ1 a
                · have : F3 a = none := if_pos w
                  rw [this] at q; cases q
                · rw [hF3 a w] at q; exact g.sub a o q
              · obtain ⟨w, ew, cc⟩ := rel1.cell i c q
                refine ⟨w, ew, ?_⟩
                cases cc with
                | shr hqq => exact .shr (hqq.ext ext)
                | @own b o d' k1 k2 k3 => exact .own (if_pos ⟨i, d', q, ew⟩) (g.keep _ _ k2 (no _)) (k3.ext ext)
              · by_cases w : Own σ ρ1 a
                · exact .inr w
                · rw [hF3 a w] at q'
                  cases e2 : F2 a with
                  | none => exact .inl (g.new a e2 q')
                  | some o => exact absurd (n2 a q (by rw [e2]; simp)) w
            refine h F3 H' v g3 (valOk_new rel1 ?_ fun _ q => q)
            cases nv with
            | own k1 k2 k3 k4 => cases k3 <;> simp [noMut] at hn
            | shr en =>
              refine .shr (enc_noMut (fun a us q => ?_) d en hn)
              rcases q with q | q
              · refine .inl ?_
                have nw : ¬ Own σ ρ1 a := fun w => by
                  obtain ⟨i, d', k1, k2⟩ := w
                  obtain ⟨w', ew, cc⟩ := rel1.cell i _ k1
                  rw [k2] at ew; cases ew
                  cases cc with
                  | own z1 z2 z3 =>
                    have z4 := g.keep _ _ z2 (no _)
                    rcases q with q | ⟨ob, q⟩
                    · rw [g.sub _ _ q] at z4; cases z4; cases z3
                    · rw [g.sub _ _ q] at z4; cases z4; cases z3
                rcases q with q | ⟨ob, q⟩
                · exact .inl (by rw [hF3 a nw]; exact q)
                · exact .inr ⟨ob, by rw [hF3 a nw]; exact q⟩
              · exact .inr q
          · rw [if_neg hn] at h
            have g3 := g2.trans (g.goE g2.rel no)
            exact h F' H' v g3 (valOk_new rel1 nv fun a q => g3.ownSub q)
      | some q =>
        simp only at h
        cases es : mutSlot (some q) ts with
        | none => rw [es] at h; exact h.elim
        | some i =>
          rw [es] at h
          simp only at h
          by_cases hc : (isOwn ρ1 i && !usesSlot (some q) i 0 ts) = true
          · rw [if_pos hc] at h
            rw [Bool.and_eq_true, Bool.not_eq_true'] at hc
            have tq : ts[q]? = some (.slot i) := by
              have es' : (match ts[q]? with | some (.slot i) => some i | _ => none) = some i := es
              split at es'
              · cases es'; assumption
              · cases es'
            obtain ⟨d0, hi⟩ : ∃ d0, ρ1[i]? = some (some (true, d0)) := by
              have := hc.1
              unfold isOwn at this
              split at this
              · rename_i d0 e0; exact ⟨d0, getD_cell e0⟩
              · cases this
            have hi2 : (frzA (some q) 0 ts ρ1)[i]? = some (some (true, d0)) := by rw [frzA_other (some q) ts 0 ρ1 hc.2]; exact hi
            obtain ⟨w, ew, cc⟩ := rel1.cell i _ hi
            obtain ⟨a, rfl⟩ : ∃ a, w = .ref a := by cases cc; exact ⟨_, rfl⟩
            have vq : vs[q]? = some (.ref a) := by
              have : ∀ {vs : List V} {ts : List Tok} (q : Nat), Toks T.K F1 σ ρ1 vs ts → ts[q]? = some (.slot i) → vs[q]? = some (.ref a) := fun {vs ts} q t => by
                induction t generalizing q with
                | nil => intro e; simp at e
                | cons a1 _ ih =>
                  intro e
                  cases q with
                  | zero =>
                    simp at e; subst e
                    cases a1 with
                    | slot hs => rw [hs] at ew; cases ew; rfl
                  | succ q => exact ih q (by simpa using e)
              exact this q x1 tq
            have ho : ∀ b, MutA (some q) vs b → b = a := fun b ⟨q', e, e2⟩ => by
              cases e
              rw [vq] at e2; cases e2; rfl
            refine ⟨F2, ds, g2.rel.sub, lv, toks_args g2.rel i d0 (fun _ => hi2) x2 em2 (fun l t et => ?_), ?_⟩
            · by_cases hl2 : q = l
              · subst hl2
                rw [if_pos (by simp)]
                rw [tq] at et; cases et; rfl
              · rw [if_neg (by simpa using hl2)]
                intro s es2
                subst es2
                exact frzA_given (some q) ts 0 ρ1 l s et (by simpa using hl2)
            · cases ec : C ds with
              | stuck => rw [ec] at h; exact h.elim
              | err x =>
                rw [ec] at h
                exact fun F' H' c dx g ex => h F' H' c dx (g2.trans (g.goM g2.rel hi2 ew ho (c := none) fun x e => by cases e)) ex
              | ok fl d m =>
                rw [ec] at h
                cases m with
                | none => exact h.elim
                | some dm =>
                  intro F' H' v g nv mo
                  cases mo with
                  | none z => cases z
                  | @some q' a' o dm z1 z2 z3 z4 z5 =>
                    cases z1
                    rw [vq] at z2; cases z2
                    have g3 := g2.trans (g.goM g2.rel hi2 ew ho (c := some (true, dm)) fun x e => by cases e; exact .own z3 z4 z5)
                    exact h F' H' v g3 (valOk_new rel1 nv fun a q => g3.ownSub q)
          · rw [if_neg hc] at h; exact h.elim
end
end PK
set_option maxHeartbeats 1000000
namespace PK
open PySem PySem.Spec PyProof.Rows L2
inductive Out where
  | nxt | brk | cnt
  | ret (fl : Bool) (d : D)
section
variable (T : XT) (W : WX)
def PostS (D0 : Ends) (F : Hp) (σ : St) (H : Hp) (ρ : En) (r : Res Out) : Prop := match r with
  | .ok .nxt ρ' => ∀ F' σ' H', Go T.K T.pr F σ H ρ F' σ' H' ρ' → D0.nx σ' H'
  | .ok .brk ρ' => ∀ F' σ' H', Go T.K T.pr F σ H ρ F' σ' H' ρ' → D0.bk σ' H'
  | .ok .cnt ρ' => ∀ F' σ' H', Go T.K T.pr F σ H ρ F' σ' H' ρ' → D0.ct σ' H'
  | .ok (.ret fl d) ρ' => ∀ F' σ' H' v, Go T.K T.pr F σ H ρ F' σ' H' ρ' → ValOk T.K σ H ρ F' H' σ' ρ' fl v d → D0.rt v H'
  | .err x ρ' => ∀ F' σ' H' c dx, Go T.K T.pr F σ H ρ F' σ' H' ρ' → ExcOk T F' c dx x → W c dx σ' H'
  | .stuck => False
def rS (m : M Out) : TS := fun D0 σ H => ∃ F ρ, Rel T.K F σ H ρ ∧ PostS T W D0 F σ H ρ (m ρ)
end
section
variable {G : G0} {T : XT} {W : WX} {k : Nat} {N : List Str} {sc : Scope} {fnc : Str → Bool} {X : Cx} {pos p : Pos} {a b e : Expr} {es : List Expr} {ma mb mc : M Tok} {na nb nc : M (Bool × D)} {ms : M (List Tok)} {tc : M Bool}
theorem e_call {n : Nat} {x : Str} {np : Nat} {mp : Option Nat} {C : List D → FRes} (c : Cok G T W k N sc fnc X) (hn : n ≤ k) (F : FnIn G T n x np mp C) (hg : sc.names.lookup x = some .globalImplicit) (ha : PA X (e :: es) (rA T W ms))
    (hl : ∀ ts ρ ρ', ms ρ = .ok ts ρ' → ts.length = np) (hs : (e :: es).all noStar = true := by rfl) (hdb : (x == ("__debug__" : Str)) = false := by decide) : PE X (.Call (.Name x p) (e :: es) [] pos) (rE T W (callM C mp ms)) := by
  obtain ⟨f, fd, ps, h1, h2, h3, h4⟩ := F.ex
  rw [List.all_cons, Bool.and_eq_true] at hs
  have F' : FnOk X.prog X.w X.K X.mg X.base (L2.CX X.prog X.w) n f fd ps (SpF T np mp C) := by rw [c.hP, c.hw, c.hK, c.hm, c.hb]; exact h4
  exact PE.mono (pe_callS F' (c.room.mono hn) (show X.env.scope.names.lookup x = _ by rw [c.hs]; exact hg) (by rw [c.hm]; exact h1) (by rw [c.hK]; exact h2) (by rw [c.hK]; exact h3) c.pass ha hdb (star_cons hs.1 _ _) (back_any hs.2)) fun _ _ _ => call_read hl
theorem al_nil : ∀ ts ρ ρ', aNil ρ = .ok ts ρ' → ts.length = 0 := fun ts ρ ρ' h => by cases h; rfl
theorem al_cons {m : M Tok} {n : Nat} (h : ∀ ts ρ ρ', ms ρ = .ok ts ρ' → ts.length = n) : ∀ ts ρ ρ', aCons m ms ρ = .ok ts ρ' → ts.length = n + 1 := fun ts ρ ρ' q => by
  unfold aCons bnd at q
  cases e1 : m ρ with
  | stuck => rw [e1] at q; cases q
  | err x ρ1 => rw [e1] at q; cases q
  | ok t ρ1 =>
    rw [e1] at q
    simp only at q
    cases e2 : ms ρ1 with
    | stuck => rw [e2] at q; cases q
    | err x ρ1 => rw [e2] at q; cases q
    | ok r ρ2 =>
      rw [e2] at q
      cases q
      rw [List.length_cons, h _ _ _ e2]

/-! ### blocks -/
theorem PostS.later {D0 : Ends} {F F1 H H1 : Hp} {σ σ1 : St} {ρ ρ1 : En} {r : Res Out} (h : PostS T W D0 F σ H ρ r) (g : Go T.K T.pr F σ H ρ F1 σ1 H1 ρ1) : PostS T W D0 F1 σ1 H1 ρ1 r := by
  cases r with
  | ok o ρ2 =>
    cases o with
    | nxt => exact fun F2 σ2 H2 g2 => h F2 σ2 H2 (g.trans g2)
    | brk => exact fun F2 σ2 H2 g2 => h F2 σ2 H2 (g.trans g2)
    | cnt => exact fun F2 σ2 H2 g2 => h F2 σ2 H2 (g.trans g2)
    | ret fl d =>
      intro F2 σ2 H2 v g2 x
      refine h F2 σ2 H2 v (g.trans g2) ?_
      cases x with
      | shr e => exact .shr e
      | own h1 h2 h3 h4 h5 => exact .own h1 h2 h3 (h4.elim (fun q => .inl (g.dom _ q)) fun q => (g.own _ q).elim .inr .inl) h5
  | err x ρ2 => exact fun F2 σ2 H2 c dx g2 x => h F2 σ2 H2 c dx (g.trans g2) x
  | stuck => exact h
def seqM (a b : M Out) : M Out := bnd a fun o => match o with
  | .nxt => b
  | o => fun ρ => .ok o ρ
def nilM : M Out := fun ρ => .ok .nxt ρ
variable {m1 m2 : M Out} {st : Stmt} {rest sts sts' : List Stmt}
theorem ss_nil : PSs X [] (rS T W nilM) := PSs.mono pss_nil fun D0 σ H ⟨F, ρ, rel, h⟩ => h F σ H (Go.refl rel)
theorem seq_read {D0 : Ends} {σ : St} {H : Hp} (h : rS T W (seqM m1 m2) D0 σ H) : rS T W m1 { D0 with nx := rS T W m2 D0 } σ H := by
  obtain ⟨F, ρ, rel, h⟩ := h
  refine ⟨F, ρ, rel, ?_⟩
  unfold seqM bnd at h
  cases e1 : m1 ρ with
  | stuck => rw [e1] at h; exact h
  | err x ρ1 => rw [e1] at h; exact h
  | ok o ρ1 =>
    rw [e1] at h
    cases o with
    | nxt => exact fun F1 σ1 H1 g => ⟨F1, ρ1, g.rel, h.later g⟩
    | brk => exact h
    | cnt => exact h
    | ret fl d => exact h
theorem ss_cons (h1 : PS X st (rS T W m1)) (h2 : PSs X rest (rS T W m2)) : PSs X (st :: rest) (rS T W (seqM m1 m2)) := PSs.mono (pss_cons h1 h2) fun _ _ _ => seq_read
theorem ss_one (h1 : PS X st (rS T W m1)) : PSs X [st] (rS T W m1) := pss_one h1
def brkM : M Out := fun ρ => .ok .brk ρ
def cntM : M Out := fun ρ => .ok .cnt ρ
theorem s_pass : PS X (.Pass pos) (rS T W nilM) := PS.mono ps_pass fun D0 σ H ⟨F, ρ, rel, h⟩ => h F σ H (Go.refl rel)
theorem s_break : PS X (.Break pos) (rS T W brkM) := PS.mono ps_break fun D0 σ H ⟨F, ρ, rel, h⟩ => h F σ H (Go.refl rel)
theorem s_continue : PS X (.Continue pos) (rS T W cntM) := PS.mono ps_continue fun D0 σ H ⟨F, ρ, rel, h⟩ => h F σ H (Go.refl rel)
/-- an expression in a statement, then the end -/
theorem PostS.ofE {D0 : Ends} {F H : Hp} {σ : St} {ρ : En} {m : M (Bool × D)} {kk : Bool × D → M Out} (h : PostS T W D0 F σ H ρ (bnd m kk ρ)) :
    PostE T W F σ H ρ (m ρ) fun v H1 => ∃ F1 ρ1 fl d, GoE T.K F σ H ρ F1 H1 ρ1 ∧ ValOk T.K σ H ρ F1 H1 σ ρ1 fl v d ∧ PostS T W D0 F σ H ρ (kk (fl, d) ρ1) := by
  unfold bnd at h
  cases e : m ρ with
  | ok r ρ1 =>
    rw [e] at h
    obtain ⟨fl, d⟩ := r
    exact fun F1 H1 v g x => ⟨F1, ρ1, fl, d, g, x, h⟩
  | err x ρ1 => rw [e] at h; exact fun F1 H1 c dx g ex => h F1 σ H1 c dx g.go ex
  | stuck => rw [e] at h; exact h
def exprM (m : M (Bool × D)) : M Out := bnd m fun _ ρ => .ok .nxt ρ
def retM (m : M (Bool × D)) : M Out := bnd m fun r ρ => .ok (.ret r.1 r.2) ρ
/-- no comprehension: stored, or dropped, as any value -/
def noComp : Expr → Bool
  | .ListComp .. => false
  | .SetComp .. => false
  | .DictComp .. => false
  | _ => true
theorem swaps_of {e : Expr} (h : noComp e = true) (t : Option Expr) (l : Nat) (env : PySem.Env) : swapsWith e t l env = pure false := by
  cases e <;> first | rfl | cases h
theorem s_expr (h : PE X e (rE T W na)) (hc : noComp e = true := by rfl) : PS X (.Expr e pos) (rS T W (exprM na)) := by
  refine PS.mono (ps_expr h (swaps_of hc _ _ _)) fun D0 σ H ⟨F, ρ, rel, h⟩ => ⟨F, ρ, rel, ?_⟩
  have h1 := PostS.ofE h
  cases e1 : na ρ with
  | stuck => rw [e1] at h1; exact h1
  | err x ρ1 => rw [e1] at h1; exact h1
  | ok r ρ1 =>
    rw [e1] at h1
    intro F1 H1 v g x
    obtain ⟨F2, ρ2, fl, d, g2, x2, h2⟩ := h1 F1 H1 v g x
    exact h2 F2 σ H1 g2.go
theorem s_ret (h : PE X e (rE T W na)) : PS X (.Return (some e) pos) (rS T W (retM na)) := by
  refine PS.mono (ps_ret h) fun D0 σ H ⟨F, ρ, rel, h⟩ => ⟨F, ρ, rel, ?_⟩
  have h1 := PostS.ofE h
  cases e1 : na ρ with
  | stuck => rw [e1] at h1; exact h1
  | err x ρ1 => rw [e1] at h1; exact h1
  | ok r ρ1 =>
    rw [e1] at h1
    intro F1 H1 v g x
    obtain ⟨F2, ρ2, fl, d, g2, x2, h2⟩ := h1 F1 H1 v g x
    exact h2 F2 σ H1 v g2.go x2
def retN : M Out := fun ρ => .ok (.ret false .none) ρ
theorem s_retN : PS X (.Return none pos) (rS T W retN) := PS.mono ps_retN fun D0 σ H ⟨F, ρ, rel, h⟩ => h F σ H .non (Go.refl rel) (.shr .non)
def ifM (c : M Bool) (a b : M Out) : M Out := bnd c fun r => if r = true then a else b
theorem s_if {c0 : Expr} (hc : PT X c0 (rT T W tc)) (ha : PSs X sts (rS T W m1)) (hb : PSs X sts' (rS T W m2)) : PS X (.If c0 sts sts' pos) (rS T W (ifM tc m1 m2)) := by
  refine PS.mono (ps_if hc ha hb) fun D0 σ H ⟨F, ρ, rel, h⟩ => ⟨F, ρ, rel, ?_⟩
  unfold ifM bnd at h
  cases e : tc ρ with
  | stuck => rw [e] at h; exact h
  | err x ρ1 => rw [e] at h; exact fun F1 H1 c dx g ex => h F1 σ H1 c dx g.go ex
  | ok c ρ1 =>
    rw [e] at h
    intro F1 H1 g
    have h := PostS.later h (g.go (pr := T.pr))
    cases c with
    | true => exact ⟨F1, ρ1, g.rel, h⟩
    | false => exact ⟨F1, ρ1, g.rel, h⟩

/-! ### names stored -/
theorem set_len_lt {σ : St} {ρ : En} {i : Nat} {c : Ce} {x : Bool × D} (hl : σ.length = ρ.length) (h : (ρ.set i c)[i]? = some (some x)) (v : V) : (σ.set i (some v))[i]? = some (some v) := by
  have : i < ρ.length := by
    have := (List.getElem?_eq_some_iff.mp h).1
    rw [List.length_set] at this
    exact this
  exact List.getElem?_set_self (by omega)
theorem store_go {K : PySem.W.Frag} {pr : Nat → Bool} {F F1 H H1 : Hp} {σ : St} {ρ ρ1 : En} {i : Nat} {v : V} {fl : Bool} {d : D} (rel : Rel K F σ H ρ) (hp : pr i = false) (g : GoE K F σ H ρ F1 H1 ρ1) (x : ValOk K σ H ρ F1 H1 σ ρ1 fl v d) :
    Go K pr F σ H ρ F1 (σ.set i (some v)) H1 (ρ1.set i (some (fl, d))) := by
  have cell : ∀ (j : Nat) (c : Bool × D), (ρ1.set i (some (fl, d)))[j]? = some (some c) → ∃ w, (σ.set i (some v))[j]? = some (some w) ∧ CellOk K F1 H1 w c := fun j c e => by
    have e0 := e
    rcases set_get e with ⟨rfl, e2⟩ | ⟨ne, e⟩
    · cases e2
      refine ⟨v, set_len_lt g.rel.len e0 v, ?_⟩
      cases x with
      | shr h => exact .shr h
      | own h1 h2 h3 _ _ => exact .own h1 h2 h3
    · rw [List.getElem?_set_ne (Ne.symm ne)]
      exact g.rel.cell j c e
  have fresh : ∀ (a : Addr) (d1 : D), (ρ1.set i (some (fl, d)))[i]? = some (some (true, d1)) → (σ.set i (some v))[i]? = some (some (.ref a)) → (H a = none ∨ Own σ ρ a) ∧ ¬ Own σ ρ1 a := fun a d1 e s => by
    rcases set_get e with ⟨_, e2⟩ | ⟨ne, _⟩
    · cases e2
      rw [set_len_lt g.rel.len e v] at s
      cases s
      cases x with
      | own _ _ _ h4 h5 => exact ⟨h4, h5⟩
    · exact absurd rfl ne
  refine ⟨⟨g.rel.sub, by rw [List.length_set, List.length_set]; exact g.rel.len, cell, fun j l a d1 d2 q1 q2 s1 s2 => ?_⟩, g.ext, g.new, g.keep, g.dom, fun a ⟨j, d1, q, s⟩ => ?_, fun j hj => List.getElem?_set_ne (fun z => by subst z; rw [hp] at hj; cases hj)⟩
  · by_cases e1 : j = i
    · by_cases e2 : l = i
      · rw [e1, e2]
      · subst e1
        obtain ⟨_, n5⟩ := fresh a d1 q1 s1
        rcases set_get q2 with ⟨z, _⟩ | ⟨_, q2⟩
        · exact absurd z e2
        · rw [List.getElem?_set_ne (Ne.symm e2)] at s2
          exact absurd ⟨l, d2, q2, s2⟩ n5
    · rcases set_get q1 with ⟨z, _⟩ | ⟨_, p1⟩
      · exact absurd z e1
      · rw [List.getElem?_set_ne (Ne.symm e1)] at s1
        by_cases e2 : l = i
        · subst e2
          obtain ⟨_, n5⟩ := fresh a d2 q2 s2
          exact absurd ⟨j, d1, p1, s1⟩ n5
        · rcases set_get q2 with ⟨z, _⟩ | ⟨_, p2⟩
          · exact absurd z e2
          · rw [List.getElem?_set_ne (Ne.symm e2)] at s2
            exact g.rel.sep j l a d1 d2 p1 p2 s1 s2
  · by_cases e1 : j = i
    · subst e1
      exact (fresh a d1 q s).1.symm
    · rcases set_get q with ⟨z, _⟩ | ⟨_, q⟩
      · exact absurd z e1
      · rw [List.getElem?_set_ne (Ne.symm e1)] at s
        exact .inl (g.ownSub ⟨j, d1, q, s⟩)
def asgM (pr : Nat → Bool) (i : Nat) (m : M (Bool × D)) : M Out := if pr i then fun _ => .stuck else bnd m fun r ρ => .ok .nxt (ρ.set i (some r))
def locB (sc : Scope) (x : Str) : Bool := match sc.names.lookup x with
  | some .local => true
  | some .cell => true
  | _ => false
theorem loc_of {sc : Scope} {x : Str} (h : locB sc x = true) : L2.Loc sc x := by
  unfold locB at h
  unfold L2.Loc
  split at h <;> simp_all
/-- a name may be stored here -/
def stoB (sc : Scope) (fnc : Str → Bool) (x : Str) : Bool := match sc.names.lookup x with
  | some .local => true
  | some .cell => fnc x
  | _ => false
theorem sto_loc {sc : Scope} {x : Str} {fnc : Str → Bool} (h : stoB sc fnc x = true) : L2.Loc sc x := by
  unfold stoB at h
  unfold L2.Loc
  split at h <;> simp_all
theorem sto_fn {sc : Scope} {x : Str} {fnc : Str → Bool} (h : stoB sc fnc x = true) : fnc x = true ∨ sc.names.lookup x = some .local := by
  unfold stoB at h
  split at h <;> simp_all
theorem asg_read {D0 : Ends} {σ : St} {H : Hp} {i : Nat} (h : rS T W (asgM T.pr i na) D0 σ H) : tAsg (rE T W na) (gName i) D0 σ H := by
  obtain ⟨F, ρ, rel, h⟩ := h
  refine ⟨F, ρ, rel, ?_⟩
  unfold asgM at h
  cases hp : T.pr i with
  | true => rw [hp] at h; exact h.elim
  | false =>
    rw [hp] at h
    have h1 := PostS.ofE h
    cases e1 : na ρ with
    | stuck => rw [e1] at h1; exact h1
    | err x ρ1 => rw [e1] at h1; exact h1
    | ok r ρ1 =>
      rw [e1] at h1
      intro F1 H1 v g x
      obtain ⟨F2, ρ2, fl, d, g2, x2, h2⟩ := h1 F1 H1 v g x
      exact h2 F2 _ H1 (store_go rel hp g2 x2)
theorem s_asg {i : Nat} {x : Str} {pos' : Pos} (c : Cok G T W k N sc fnc X) (hi : N[i]? = some x) (hx : stoB sc fnc x = true) (he : PE X e (rE T W na)) (hc : noComp e = true := by rfl) : PS X (.Assign [.Name x pos'] e pos) (rS T W (asgM T.pr i na)) :=
  PS.mono (ps_set (i := i) (by rw [c.hN]; exact c.nd) (by rw [c.hN]; exact hi) (by rw [c.hs]; exact sto_loc hx) he (swaps_of hc _ _ _) (by rw [c.hs, c.hfn]; exact sto_fn hx)) fun _ _ _ => asg_read

/-! ### targets -/
abbrev PM := D → En → Option En
abbrev PMs := List D → En → Option En
def pN (pr : Nat → Bool) (i : Nat) : PM := fun d ρ => if pr i then none else some (ρ.set i (some (false, d)))
def pT (n : Nat) (g : PMs) : PM := fun d ρ => match d with
  | .tuple ds => if ds.length = n then g ds ρ else none
  | .list ds => if ds.length = n then g ds ρ else none
  | _ => none
def pNil : PMs := fun ds ρ => match ds with
  | [] => some ρ
  | _ => none
def pCons (g : PM) (r : PMs) : PMs := fun ds ρ => match ds with
  | d :: ds => (g d ρ).bind (r ds)
  | [] => none
/-- the protected slots stand -/
def PrE (pr : Nat → Bool) (ρ ρ' : En) : Prop := ρ'.length = ρ.length ∧ ∀ j, pr j = true → ρ'[j]? = ρ[j]?
theorem PrE.trans {pr : Nat → Bool} {ρ ρ1 ρ2 : En} (a : PrE pr ρ ρ1) (b : PrE pr ρ1 ρ2) : PrE pr ρ ρ2 := ⟨b.1.trans a.1, fun j h => (b.2 j h).trans (a.2 j h)⟩
def rG (T : XT) (g : PM) : TG := fun v σ H Q => ∃ F ρ d ρ', Rel T.K F σ H ρ ∧ Enc T.K F v d ∧ g d ρ = some ρ' ∧ ∀ σ', Go T.K T.pr F σ H ρ F σ' H ρ' → PrE T.pr ρ ρ' → Q σ' H
def rGs (T : XT) (g : PMs) : TGs := fun vs σ H Q => ∃ F ρ ds ρ', Rel T.K F σ H ρ ∧ EncL T.K F vs ds ∧ g ds ρ = some ρ' ∧ ∀ σ', Go T.K T.pr F σ H ρ F σ' H ρ' → PrE T.pr ρ ρ' → Q σ' H
theorem PG.mono {X : Cx} {e : Expr} {t t' : TG} (h : PG X e t) (k : ∀ v σ H Q, t' v σ H Q → t v σ H Q) : PG X e t' := ⟨fun pins s σ H v u Q I r q => h.run pins s σ H v u Q I r (k v σ H Q q)⟩
theorem PGs.mono {X : Cx} {e : List Expr} {t t' : TGs} (h : PGs X e t) (k : ∀ v σ H Q, t' v σ H Q → t v σ H Q) : PGs X e t' := ⟨fun pins s σ H v u Q I r q => h.run pins s σ H v u Q I r (k v σ H Q q)⟩
theorem PG.or {X : Cx} {e : Expr} {t t' : TG} (h : PG X e t) (h' : PG X e t') : PG X e (fun v σ H Q => t v σ H Q ∨ t' v σ H Q) := ⟨fun pins s σ H v u Q I r q => q.elim (h.run pins s σ H v u Q I r) (h'.run pins s σ H v u Q I r)⟩
theorem g_name {i : Nat} {x : Str} (c : Cok G T W k N sc fnc X) (hi : N[i]? = some x) (hx : stoB sc fnc x = true) : PG X (.Name x pos) (rG T (pN T.pr i)) := by
  refine PG.mono (pg_name (i := i) (by rw [c.hN]; exact c.nd) (by rw [c.hN]; exact hi) (by rw [c.hs]; exact sto_loc hx) (by rw [c.hs, c.hfn]; exact sto_fn hx)) fun v σ H Q h => ?_
  obtain ⟨F, ρ, d, ρ', rel, en, hg, q⟩ := h
  unfold pN at hg
  cases hp : T.pr i with
  | true => rw [hp] at hg; cases hg
  | false =>
    rw [hp] at hg
    cases hg
    exact q _ (store_go rel hp (GoE.refl rel) (.shr en)) ⟨List.length_set, fun j hj => List.getElem?_set_ne (fun z => by subst z; rw [hp] at hj; cases hj)⟩
theorem gs_nil : PGs X [] (rGs T pNil) := by
  refine PGs.mono pgs_nil fun vs σ H Q h => ?_
  obtain ⟨F, ρ, ds, ρ', rel, en, hg, q⟩ := h
  cases en with
  | nil => cases hg; exact ⟨rfl, q σ (Go.refl rel) ⟨rfl, fun _ _ => rfl⟩⟩
  | cons _ _ => cases hg
theorem each_cons {e : Expr} (h : noStar e = true) (es : List Expr) (env : PySem.Env) : assignEach (e :: es) env = (false, assign e env) :: assignEach es env := by
  cases e <;> first | rfl | cases h
theorem gs_cons {g : PM} {r : PMs} (h1 : PG X e (rG T g)) (h2 : PGs X es (rGs T r)) (hs : noStar e = true := by rfl) : PGs X (e :: es) (rGs T (pCons g r)) := by
  refine PGs.mono (pgs_cons h1 h2 (by rw [each_cons hs]; rfl)) fun vs σ H Q h => ?_
  obtain ⟨F, ρ, ds, ρ', rel, en, hg, q⟩ := h
  cases en with
  | nil => cases hg
  | @cons v vs d ds a t =>
    have hg : (g d ρ).bind (r ds) = some ρ' := hg
    cases e1 : g d ρ with
    | none => rw [e1] at hg; cases hg
    | some ρ1 =>
      rw [e1] at hg
      refine ⟨v, vs, rfl, F, ρ, d, ρ1, rel, a, e1, fun σ1 g1 p1 => ⟨F, ρ1, ds, ρ', g1.rel, t, hg, fun σ2 g2 p2 => q σ2 (g1.trans g2) (p1.trans p2)⟩⟩
theorem each_len : ∀ (es : List Expr) (env : PySem.Env), (assignEach es env).length = es.length
  | [], _ => rfl
  | e :: es, env => by
    cases e <;> simp [assignEach, each_len es env]
theorem each_nostar : ∀ {es : List Expr} (env : PySem.Env), es.all noStar = true → (assignEach es env).findIdx? (·.1) = none
  | [], _, _ => rfl
  | e :: es, env, h => by
    rw [List.all_cons, Bool.and_eq_true] at h
    rw [each_cons h.1, List.findIdx?_cons]
    simp [each_nostar env h.2]
theorem g_tup {kk : Nat} {g : PMs} (c : Cok G T W k N sc fnc X) (h : PGs X es (rGs T g)) (hs : es.all noStar = true := by rfl) : PG X (.Tuple es kk pos) (rG T (pT es.length g)) := by
  refine PG.mono (PG.or (pg_tup c.calm h (each_len es _) (each_nostar _ hs)) (pg_lst c.calm h (each_len es _) (each_nostar _ hs))) fun v σ H Q h => ?_
  rw [c.hK]
  obtain ⟨F, ρ, d, ρ', rel, en, hg, q⟩ := h
  unfold pT at hg
  split at hg
  · split at hg
    · rename_i hl
      cases en with
      | tup h1 t => exact .inl ⟨_, _, rfl, SqT.ext rel.sub h1, by rw [t.length]; exact hl, F, ρ, _, ρ', rel, t, hg, q⟩
    · cases hg
  · split at hg
    · rename_i hl
      cases en with
      | lst h1 t => exact .inr ⟨_, _, rfl, SqL.of (rel.sub _ _ h1), by rw [t.length]; exact hl, F, ρ, _, ρ', rel, t, hg, q⟩
    · cases hg
  · cases hg
/-- a, b = e -/
def asgP (g : PM) (m : M (Bool × D)) : M Out := bnd m fun r ρ => match g r.2 ρ with
  | some ρ' => .ok .nxt ρ'
  | none => .stuck
/-- the pair is written on both sides and stored at once -/
def noSwap : Expr → Bool
  | .Tuple .. => false
  | _ => true
theorem swap_of {tg e : Expr} (h : noSwap e = true) (env : PySem.Env) : swappedStores [tg] e env = pure none := by
  cases e <;> first | (cases tg <;> rfl) | cases h
theorem s_asgP {tg : Expr} {g : PM} (he : PE X e (rE T W na)) (hg : PG X tg (rG T g)) (hc : noComp e = true := by rfl) (hw : noSwap e = true := by rfl) (ht : noStar tg = true := by rfl) : PS X (.Assign [tg] e pos) (rS T W (asgP g na)) := by
  refine PS.mono (ps_asg he hg (by exact swaps_of hc _ _ _) (swap_of hw _) (by rw [each_cons ht]; rfl)) fun D0 σ H ⟨F, ρ, rel, h⟩ => ⟨F, ρ, rel, ?_⟩
  have h1 := PostS.ofE h
  cases e1 : na ρ with
  | stuck => rw [e1] at h1; exact h1
  | err x ρ1 => rw [e1] at h1; exact h1
  | ok r ρ1 =>
    rw [e1] at h1
    intro F1 H1 v g0 x0
    obtain ⟨F2, ρ2, fl, d, g2, x2, h2⟩ := h1 F1 H1 v g0 x0
    obtain ⟨F3, g3, _, en⟩ := freeze g2 x2
    simp only at h2
    cases e2 : g d ρ2 with
    | none => rw [e2] at h2; exact h2.elim
    | some ρ' =>
      rw [e2] at h2
      exact ⟨F3, ρ2, d, ρ', g3.rel, en, e2, fun σ' g4 _ => h2 F3 σ' H1 (g3.go.trans g4)⟩
end
end PK
set_option maxHeartbeats 1000000
namespace PK
open PySem PySem.Spec PyProof.Rows L2

/-! ### iterators -/
structure JOk (K : PySem.W.Frag) (J : It) (F0 : Hp) (ds : List D) : Prop where
  go : ∀ (F H : Hp) (i : Nat) (d : D), Ext F0 F → Ext F H → ds[i]? = some d → J.go i H ∧ ∀ x H', J.yld i H x H' → ∃ F', Al F H F' H' ∧ Enc K F' x d
  stop : ∀ (F H : Hp) (i : Nat), Ext F0 F → Ext F H → ds.length ≤ i → J.stop i H
theorem JOk.ext {K : PySem.W.Frag} {J : It} {F0 F1 : Hp} {ds : List D} (h : JOk K J F0 ds) (e : Ext F0 F1) : JOk K J F1 ds := ⟨fun F H i d a => h.go F H i d (e.trans a), fun F H i a => h.stop F H i (e.trans a)⟩
section
variable (T : XT) (W : WX)
def PostI (F : Hp) (σ : St) (H : Hp) (ρ : En) (r : Res (List D)) (R : It → Hp → Prop) : Prop := match r with
  | .ok ds ρ' => ∀ F' H' J, GoE T.K F σ H ρ F' H' ρ' → JOk T.K J F' ds → R J H'
  | .err x ρ' => ∀ F' H' c dx, GoE T.K F σ H ρ F' H' ρ' → ExcOk T F' c dx x → W c dx σ H'
  | .stuck => False
def rI (m : M (List D)) : TI := fun σ H R => ∃ F ρ, Rel T.K F σ H ρ ∧ PostI T W F σ H ρ (m ρ) R
end
theorem PI.mono {X : Cx} {tg e : Expr} {t t' : TI} (h : PI X tg e t) (k : ∀ σ H R, t' σ H R → t σ H R) : PI X tg e t' := ⟨fun pins s σ H R I q => h.run pins s σ H R I (k σ H R q)⟩
theorem PI.or {X : Cx} {tg e : Expr} {t t' : TI} (h : PI X tg e t) (h' : PI X tg e t') : PI X tg e (fun σ H R => t σ H R ∨ t' σ H R) := ⟨fun pins s σ H R I q => q.elim (h.run pins s σ H R I) (h'.run pins s σ H R I)⟩
theorem PS.or {X : Cx} {e : Stmt} {t t' : TS} (h : PS X e t) (h' : PS X e t') : PS X e (fun D σ H => t D σ H ∨ t' D σ H) := ⟨fun pins s σ H Q I q => q.elim (h.run pins s σ H Q I) (h'.run pins s σ H Q I)⟩
theorem PE.or {X : Cx} {e : Expr} {t t' : TE} (h : PE X e t) (h' : PE X e t') : PE X e (fun σ H Q => t σ H Q ∨ t' σ H Q) := ⟨fun pins s σ H Q I q => q.elim (h.run pins s σ H Q I) (h'.run pins s σ H Q I)⟩
/-- what goes through a list, a tuple or a text -/
def chs (x : Str) : List D := x.cps.toList.map fun c => .str ⟨#[c]⟩
def itD : D → Option (List D)
  | .list ds => some ds
  | .tuple ds => some ds
  | .str x => some (chs x)
  | _ => none
def itM (m : M (Bool × D)) : M (List D) := bnd m fun r ρ => match itD r.2 with
  | some ds => .ok ds ρ
  | none => .stuck
theorem okS_chr {x : Str} (h : okS x = true) {i : Nat} {c : Nat} (e : x.cps[i]? = some c) : okS ⟨#[c]⟩ = true := by
  unfold okS PyData.strOk at h ⊢
  rw [Bool.and_eq_true, decide_eq_true_eq, Array.all_eq_true] at h
  rw [Bool.and_eq_true, decide_eq_true_eq]
  refine ⟨?_, by show 1 ≤ 16777216; decide⟩
  obtain ⟨hi, e⟩ := Array.getElem?_eq_some_iff.mp e
  have := h.1 i hi
  rw [e] at this
  simpa using this
theorem JOk.lst {K : PySem.W.Frag} {F : Hp} {a : Addr} {vs : List V} {ds : List D} (h : F a = some (.lst vs)) (t : EncL K F vs ds) : JOk K (Itl K a) F ds := by
  refine ⟨fun F' H i d e s q => ?_, fun F' H i e s q => ?_⟩
  · obtain ⟨v, ev, en⟩ := t.get q
    have hs := SqL.of (K := K) (s _ _ (e _ _ h))
    exact ⟨⟨vs, v, hs, ev⟩, fun x H' ⟨e1, y⟩ => by
      subst e1
      have := y vs hs
      rw [ev] at this
      cases this
      exact ⟨F', Al.refl s, en.ext e⟩⟩
  · exact ⟨vs, SqL.of (s _ _ (e _ _ h)), by rw [t.length]; exact q⟩
theorem JOk.tup {K : PySem.W.Frag} {F : Hp} {a : Addr} {vs : List V} {ds : List D} (h : SqT K F a vs) (t : EncL K F vs ds) : JOk K (Itt K a) F ds := by
  refine ⟨fun F' H i d e s q => ?_, fun F' H i e s q => ?_⟩
  · obtain ⟨v, ev, en⟩ := t.get q
    have hs := SqT.ext s (SqT.ext e h)
    exact ⟨⟨vs, v, hs, ev⟩, fun x H' ⟨e1, y⟩ => by
      subst e1
      have := y vs hs
      rw [ev] at this
      cases this
      exact ⟨F', Al.refl s, en.ext e⟩⟩
  · exact ⟨vs, SqT.ext s (SqT.ext e h), by rw [t.length]; exact q⟩
theorem chs_get {x : Str} {i : Nat} {d : D} (h : (chs x)[i]? = some d) : ∃ c, x.cps[i]? = some c ∧ d = .str ⟨#[c]⟩ := by
  unfold chs at h
  rw [List.getElem?_map] at h
  cases e : x.cps.toList[i]? with
  | none => rw [e] at h; cases h
  | some c =>
    rw [e] at h
    cases h
    exact ⟨c, by rw [← Array.getElem?_toList]; exact e, rfl⟩
theorem JOk.str {K : PySem.W.Frag} {F : Hp} {x : Str} (h : okS x = true) : JOk K (Its x) F (chs x) := by
  refine ⟨fun F' H i d e s q => ?_, fun F' H i e s q => ?_⟩
  · obtain ⟨c, ec, rfl⟩ := chs_get q
    refine ⟨(Array.getElem?_eq_some_iff.mp ec).1, fun v H' ⟨e1, c', ec', e2⟩ => ?_⟩
    subst e1
    rw [ec] at ec'
    cases ec'
    subst e2
    exact ⟨F', Al.refl s, .str _ (okS_chr h ec)⟩
  · unfold chs at q
    show x.cps.size ≤ i
    simpa using q
section
variable {G : G0} {T : XT} {W : WX} {k : Nat} {N : List Str} {sc : Scope} {fnc : Str → Bool} {X : Cx} {pos p tpos : Pos} {tg a b e : Expr} {es elts : List Expr} {kk : Nat} {ma mb mc : M Tok} {na nb nc : M (Bool × D)} {ms : M (List Tok)} {ml : M (List D)} {tc : M Bool} {m1 m2 : M Out}
/-- an expression that is walked, then the walk -/
theorem PostI.ofE {F H : Hp} {σ : St} {ρ : En} {R : It → Hp → Prop} {d : D} {fl : Bool} {ρ1 : En} {ds : List D} (e : na ρ = .ok (fl, d) ρ1) (hd : itD d = some ds) (h : PostI T W F σ H ρ (itM na ρ) R) :
    PostE T W F σ H ρ (na ρ) fun v H1 => ∃ F1, GoE T.K F σ H ρ F1 H1 ρ1 ∧ Enc T.K F1 v d ∧ ∀ J, JOk T.K J F1 ds → R J H1 := by
  unfold itM bnd at h
  rw [e] at h ⊢
  simp only [hd] at h
  intro F1 H1 v g x
  obtain ⟨F2, g2, _, en⟩ := freeze g x
  exact ⟨F2, g2, en, fun J j => h F2 H1 J g2 j⟩
theorem i_val (c : Cok G T W k N sc fnc X) (h : PE X e (rE T W na)) : PI X tg e (rI T W (itM na)) := by
  refine PI.mono (PI.or (pi_list h) (PI.or (pi_tup h) (pi_str h))) fun σ H R ⟨F, ρ, rel, h⟩ => ?_
  rw [c.hK]
  cases e : na ρ with
  | stuck => unfold itM bnd at h; rw [e] at h; exact h.elim
  | err x ρ1 =>
    refine .inl ⟨F, ρ, rel, ?_⟩
    unfold itM bnd at h; rw [e] at h ⊢; exact h
  | ok r ρ1 =>
    obtain ⟨fl, d⟩ := r
    cases d with
    | list ds =>
      refine .inl ⟨F, ρ, rel, ?_⟩
      have h1 := PostI.ofE e rfl h
      rw [e] at h1 ⊢
      intro F1 H1 v g x
      obtain ⟨F2, g2, en, hR⟩ := h1 F1 H1 v g x
      cases en with
      | lst q t => exact ⟨_, rfl, ⟨_, SqL.of (g2.rel.sub _ _ q)⟩, hR _ (JOk.lst q t)⟩
    | tuple ds =>
      refine .inr (.inl ⟨F, ρ, rel, ?_⟩)
      have h1 := PostI.ofE e rfl h
      rw [e] at h1 ⊢
      intro F1 H1 v g x
      obtain ⟨F2, g2, en, hR⟩ := h1 F1 H1 v g x
      cases en with
      | tup q t => exact ⟨_, rfl, ⟨_, SqT.ext g2.rel.sub q⟩, hR _ (JOk.tup q t)⟩
    | str x =>
      refine .inr (.inr ⟨F, ρ, rel, ?_⟩)
      have h1 := PostI.ofE e rfl h
      rw [e] at h1 ⊢
      intro F1 H1 v g x
      obtain ⟨F2, g2, en, hR⟩ := h1 F1 H1 v g x
      cases en with
      | str x q => exact ⟨_, rfl, hR _ (JOk.str q)⟩
    | _ => unfold itM bnd at h; rw [e] at h; exact h.elim

/-! ### range, enumerate, zip -/
def rngL (lo c : Int) (n : Nat) : List D := (List.range n).map fun i => .int (lo + (i : Nat) * c)
theorem rngL_get {lo c : Int} {n i : Nat} {d : D} (h : (rngL lo c n)[i]? = some d) : i < n ∧ d = .int (lo + (i : Nat) * c) := by
  unfold rngL at h
  rw [List.getElem?_map] at h
  cases e : (List.range n)[i]? with
  | none => rw [e] at h; cases h
  | some j =>
    rw [e] at h
    cases h
    obtain ⟨h1, h2⟩ := List.getElem?_eq_some_iff.mp e
    rw [List.getElem_range] at h2
    subst h2
    exact ⟨by simpa using h1, rfl⟩
theorem JOk.rngC {K : PySem.W.Frag} {F : Hp} {lo c : Int} {n : Nat} : JOk K (Itc lo c n) F (rngL lo c n) := by
  refine ⟨fun F' H i d e s q => ?_, fun F' H i e s q => ?_⟩
  · obtain ⟨h1, rfl⟩ := rngL_get q
    refine ⟨h1, fun v H' ⟨e1, e2⟩ => ?_⟩
    subst e1 e2
    exact ⟨F', Al.refl s, .int _⟩
  · show n ≤ i
    simpa [rngL] using q
theorem JOk.rng {K : PySem.W.Frag} {F : Hp} {lo : Int} {n : Nat} : JOk K (Itr lo n) F (rngL lo 1 n) := by
  refine ⟨fun F' H i d e s q => ?_, fun F' H i e s q => ?_⟩
  · obtain ⟨h1, rfl⟩ := rngL_get q
    refine ⟨h1, fun v H' ⟨e1, e2⟩ => ?_⟩
    subst e1 e2
    rw [Int.mul_one]
    exact ⟨F', Al.refl s, .int _⟩
  · show n ≤ i
    simpa [rngL] using q
def wide (i : Int) : Bool := decide (-(2 ^ 62) ≤ i) && decide (i < 2 ^ 62)
theorem wide_of {i : Int} (h : wide i = true) : -(2 ^ 62) ≤ i ∧ i < 2 ^ 62 := by
  unfold wide at h
  rw [Bool.and_eq_true, decide_eq_true_eq, decide_eq_true_eq] at h
  exact h
def rng1G : List D → Option (List D)
  | [.int j] => if wide j then some (rngL 0 1 j.toNat) else none
  | _ => none
def rng2G : List D → Option (List D)
  | [.int i, .int j] => if wide i && wide j then some (rngL i 1 (j - i).toNat) else none
  | _ => none
def rng3G : List D → Option (List D)
  | [.int i, .int j, .int c] => if c == -1 && (wide i && wide j) then some (rngL i (-1) (i - j).toNat) else none
  | _ => none
def itN (ms : M (List Tok)) (g : List D → Option (List D)) : M (List D) := bnd ms fun ts ρ => match (ts.mapM (rsv ρ)).bind g with
  | some ds => .ok ds ρ
  | none => .stuck
theorem PostI.ofA {F H : Hp} {σ : St} {ρ : En} {R : It → Hp → Prop} {g : List D → Option (List D)} (h : PostI T W F σ H ρ (itN ms g ρ) R) :
    PostA T W F σ H ρ (ms ρ) fun vs H1 => ∃ F1 xs ds, Ext F1 H1 ∧ RdL T.K F1 H1 vs xs ∧ g xs = some ds ∧ ∀ J, JOk T.K J F1 ds → R J H1 := by
  unfold itN bnd at h
  cases e : ms ρ with
  | stuck => rw [e] at h; exact h
  | err x ρ1 => rw [e] at h; exact h
  | ok ts ρ1 =>
    rw [e] at h
    intro F1 H1 vs g1 x
    simp only at h
    cases e1 : ts.mapM (rsv ρ1) with
    | none => rw [e1] at h; exact h.elim
    | some xs =>
      rw [e1, Option.bind_some] at h
      cases e2 : g xs with
      | none => rw [e2] at h; exact h.elim
      | some ds =>
        rw [e2] at h
        exact ⟨F1, xs, ds, g1.rel.sub, x.read g1.rel e1, e2, fun J j => h F1 H1 J g1 j⟩
theorem RdL.nil' {K : PySem.W.Frag} {F H : Hp} {vs : List V} (h : RdL K F H vs []) : vs = [] := by cases h; rfl
theorem RdL.cons' {K : PySem.W.Frag} {F H : Hp} {vs : List V} {d : D} {ds : List D} (h : RdL K F H vs (d :: ds)) : ∃ v ws, vs = v :: ws ∧ RdV K F H v d ∧ RdL K F H ws ds := by cases h with | cons a b => exact ⟨_, _, rfl, a, b⟩
theorem PostA.map {F H : Hp} {σ : St} {ρ : En} {r : Res (List Tok)} {Q Q' : List V → Hp → Prop} (h : PostA T W F σ H ρ r Q) (k : ∀ v H, Q v H → Q' v H) : PostA T W F σ H ρ r Q' := by
  cases r with
  | ok a ρ1 => exact fun F' H' v g x => k _ _ (h F' H' v g x)
  | err x ρ1 => exact h
  | stuck => exact h
theorem i_rng1 (c : Cok G T W k N sc fnc X) (ha : PA X [a] (rA T W ms)) (hg : sc.names.lookup ("range" : Str) = some .globalImplicit) (hm : G.mg "range" = none) (hs : noStar a = true := by rfl) :
    PI X tg (.Call (.Name "range" p) [a] [] pos) (rI T W (itN ms rng1G)) := by
  refine PI.mono (pi_range1 (show X.env.scope.names.lookup _ = _ by rw [c.hs]; exact hg) (by rw [c.hm]; exact hm) ha (star_cons hs _ _)) fun σ H R ⟨F, ρ, rel, h⟩ => ⟨F, ρ, rel, (PostI.ofA h).map fun vs H1 ⟨F1, xs, ds, s, rd, hg, hR⟩ => ?_⟩
  unfold rng1G at hg
  split at hg
  · split at hg
    · cases hg
      rename_i hw
      obtain ⟨v, ws, rfl, r1, r2⟩ := rd.cons'
      cases r2.nil'
      cases r1.int
      exact ⟨_, rfl, (wide_of hw).1, (wide_of hw).2, hR _ JOk.rng⟩
    · cases hg
  · cases hg
theorem i_rng2 (c : Cok G T W k N sc fnc X) (ha : PA X [a, b] (rA T W ms)) (hg : sc.names.lookup ("range" : Str) = some .globalImplicit) (hm : G.mg "range" = none) (hs : (noStar a && noStar b) = true := by rfl) :
    PI X tg (.Call (.Name "range" p) [a, b] [] pos) (rI T W (itN ms rng2G)) := by
  rw [Bool.and_eq_true] at hs
  refine PI.mono (pi_range2 (show X.env.scope.names.lookup _ = _ by rw [c.hs]; exact hg) (by rw [c.hm]; exact hm) ha ((star_cons hs.1 _ _).trans (by rw [star_cons hs.2 _ _]; rfl)) (star_cons hs.2 _ _)) fun σ H R ⟨F, ρ, rel, h⟩ => ⟨F, ρ, rel, (PostI.ofA h).map fun vs H1 ⟨F1, xs, ds, s, rd, hg, hR⟩ => ?_⟩
  unfold rng2G at hg
  split at hg
  · split at hg
    · cases hg
      rename_i hw
      rw [Bool.and_eq_true] at hw
      obtain ⟨v, ws, rfl, r1, q2⟩ := rd.cons'
      obtain ⟨w, ws, rfl, r2, q3⟩ := q2.cons'
      cases q3.nil'
      cases r1.int
      cases r2.int
      exact ⟨_, _, rfl, ⟨(wide_of hw.1).1, (wide_of hw.1).2, (wide_of hw.2).1, (wide_of hw.2).2⟩, hR _ JOk.rng⟩
    · cases hg
  · cases hg
theorem i_rng3 {e3 : Expr} (c : Cok G T W k N sc fnc X) (ha : PA X [a, b, e3] (rA T W ms)) (hg : sc.names.lookup ("range" : Str) = some .globalImplicit) (hm : G.mg "range" = none) (hs : [a, b, e3].all noStar = true := by rfl) :
    PI X tg (.Call (.Name "range" p) [a, b, e3] [] pos) (rI T W (itN ms rng3G)) := by
  rw [List.all_cons, Bool.and_eq_true] at hs
  refine PI.mono (pi_range3 (show X.env.scope.names.lookup _ = _ by rw [c.hs]; exact hg) (by rw [c.hm]; exact hm) ha (star_cons hs.1 _ _) (back_any hs.2)) fun σ H R ⟨F, ρ, rel, h⟩ => ⟨F, ρ, rel, (PostI.ofA h).map fun vs H1 ⟨F1, xs, ds, s, rd, hg, hR⟩ => ?_⟩
  unfold rng3G at hg
  split at hg
  · split at hg
    · cases hg
      rename_i hw
      rw [Bool.and_eq_true, Bool.and_eq_true] at hw
      obtain ⟨hc, hw⟩ := hw
      obtain ⟨v, ws, rfl, r1, q2⟩ := rd.cons'
      obtain ⟨w, ws, rfl, r2, q3⟩ := q2.cons'
      obtain ⟨u, ws, rfl, r3, q4⟩ := q3.cons'
      cases q4.nil'
      cases r1.int
      cases r2.int
      cases r3.int
      have hc := eq_of_beq hc
      subst hc
      exact ⟨_, _, _, _, rfl, RgC.neg (wide_of hw.1).1 (wide_of hw.1).2 (wide_of hw.2).1 (wide_of hw.2).2, hR _ JOk.rngC⟩
    · cases hg
  · cases hg
/-- retained arguments, then what is walked -/
def itL (ml : M (List D)) (g : List D → Option (List D)) : M (List D) := bnd ml fun ds ρ => match g ds with
  | some xs => .ok xs ρ
  | none => .stuck
theorem PostI.ofL {F H : Hp} {σ : St} {ρ : En} {R : It → Hp → Prop} {g : List D → Option (List D)} (h : PostI T W F σ H ρ (itL ml g ρ) R) :
    PostL T W F σ H ρ (ml ρ) fun vs H1 => ∃ F1 xs ds, Ext F1 H1 ∧ EncL T.K F1 vs xs ∧ g xs = some ds ∧ ∀ J, JOk T.K J F1 ds → R J H1 := by
  unfold itL bnd at h
  cases e : ml ρ with
  | stuck => rw [e] at h; exact h
  | err x ρ1 => rw [e] at h; exact h
  | ok xs ρ1 =>
    rw [e] at h
    intro F1 H1 vs g1 x
    simp only at h
    cases e2 : g xs with
    | none => rw [e2] at h; exact h.elim
    | some ds =>
      rw [e2] at h
      exact ⟨F1, xs, ds, g1.rel.sub, x, e2, fun J j => h F1 H1 J g1 j⟩
theorem PostL.map {F H : Hp} {σ : St} {ρ : En} {r : Res (List D)} {Q Q' : List V → Hp → Prop} (h : PostL T W F σ H ρ r Q) (k : ∀ v H, Q v H → Q' v H) : PostL T W F σ H ρ r Q' := by
  cases r with
  | ok a ρ1 => exact fun F' H' v g x => k _ _ (h F' H' v g x)
  | err x ρ1 => exact h
  | stuck => exact h
def enuL : Nat → List D → List D
  | _, [] => []
  | i, d :: ds => .tuple [.int (i : Nat), d] :: enuL (i + 1) ds
theorem enuL_len : ∀ (ds : List D) (i : Nat), (enuL i ds).length = ds.length
  | [], _ => rfl
  | d :: ds, i => by unfold enuL; rw [List.length_cons, List.length_cons, enuL_len ds]
theorem enuL_get : ∀ (ds : List D) (i j : Nat) (d : D), (enuL j ds)[i]? = some d → ∃ e, ds[i]? = some e ∧ d = .tuple [.int ((j + i : Nat) : Int), e]
  | [], i, j, d, h => by simp [enuL] at h
  | e :: ds, 0, j, d, h => by
    simp [enuL] at h
    exact ⟨e, rfl, h.symm⟩
  | e :: ds, i + 1, j, d, h => by
    unfold enuL at h
    rw [List.getElem?_cons_succ] at h
    obtain ⟨e', h1, h2⟩ := enuL_get ds i (j + 1) d h
    exact ⟨e', by rw [List.getElem?_cons_succ]; exact h1, by rw [h2, show j + 1 + i = j + (i + 1) by omega]⟩
theorem JOk.enum {K : PySem.W.Frag} {F : Hp} {a : Addr} {vs : List V} {ds : List D} (h : F a = some (.lst vs)) (t : EncL K F vs ds) : JOk K (Ite K a) F (enuL 0 ds) := by
  refine ⟨fun F' H i d e s q => ?_, fun F' H i e s q => ?_⟩
  · obtain ⟨d', q1, rfl⟩ := enuL_get _ _ _ _ q
    obtain ⟨v, ev, en⟩ := t.get q1
    have hs := SqL.of (K := K) (s _ _ (e _ _ h))
    refine ⟨⟨vs, v, hs, ev⟩, fun x H' ⟨p, y, e1, hp, e2, hy⟩ => ?_⟩
    subst e1 e2
    have := hy vs hs
    rw [ev] at this
    cases this
    refine ⟨_, Al.tup s hp, .tup (.inl (.inl upd_same)) (.cons ?_ (.cons ((en.ext e).ext (ext_upd (none_of_sub s hp))) .nil))⟩
    rw [Nat.zero_add]
    exact .int _
  · exact ⟨vs, SqL.of (s _ _ (e _ _ h)), by rw [t.length, ← enuL_len ds 0]; exact q⟩
def enuG : List D → Option (List D)
  | [.list xs] => some (enuL 0 xs)
  | _ => none
theorem i_enum {x : Expr} (c : Cok G T W k N sc fnc X) (ha : PA X [x] (rL T W ml)) (hg : sc.names.lookup ("enumerate" : Str) = some .globalImplicit) (hm : G.mg "enumerate" = none) (hs : noStar x = true := by rfl) :
    PI X (.Tuple elts kk tpos) (.Call (.Name "enumerate" p) [x] [] pos) (rI T W (itL ml enuG)) := by
  refine PI.mono (pi_enum (show X.env.scope.names.lookup _ = _ by rw [c.hs]; exact hg) (by rw [c.hm]; exact hm) ha (star_cons hs _ _)) fun σ H R ⟨F, ρ, rel, h⟩ => ⟨F, ρ, rel, (PostI.ofL h).map fun vs H1 ⟨F1, xs, ds, s, rd, hg, hR⟩ => ?_⟩
  rw [c.hK]
  unfold enuG at hg
  split at hg
  · cases hg
    cases rd with
    | cons en r =>
      cases r
      cases en with
      | lst h1 t => exact ⟨_, _, rfl, SqL.of (s _ _ h1), hR _ (JOk.enum h1 t)⟩
  · cases hg
def zipL : List D → List D → List D
  | d :: ds, e :: es => .tuple [d, e] :: zipL ds es
  | _, _ => []
theorem zipL_get : ∀ (ds es : List D) (i : Nat) (d : D), (zipL ds es)[i]? = some d → ∃ x y, ds[i]? = some x ∧ es[i]? = some y ∧ d = .tuple [x, y]
  | [], _, i, d, h => by simp [zipL] at h
  | _ :: _, [], i, d, h => by simp [zipL] at h
  | x :: ds, y :: es, 0, d, h => by
    simp [zipL] at h
    exact ⟨x, y, rfl, rfl, h.symm⟩
  | x :: ds, y :: es, i + 1, d, h => by
    unfold zipL at h
    rw [List.getElem?_cons_succ] at h
    exact zipL_get ds es i d h
theorem zipL_len : ∀ (ds es : List D) (i : Nat), (zipL ds es).length ≤ i → ds.length ≤ i ∨ es.length ≤ i
  | [], _, i, h => .inl (Nat.zero_le _)
  | _ :: _, [], i, h => .inr (Nat.zero_le _)
  | x :: ds, y :: es, 0, h => by simp [zipL] at h
  | x :: ds, y :: es, i + 1, h => by
    unfold zipL at h
    rw [List.length_cons] at h
    rcases zipL_len ds es i (by omega) with q | q
    · exact .inl (by rw [List.length_cons]; omega)
    · exact .inr (by rw [List.length_cons]; omega)
theorem JOk.zip {K : PySem.W.Frag} {F : Hp} {a b : Addr} {vs ws : List V} {ds es : List D} (h : F a = some (.lst vs)) (t : EncL K F vs ds) (h' : F b = some (.lst ws)) (t' : EncL K F ws es) : JOk K (Itz K a b) F (zipL ds es) := by
  refine ⟨fun F' H i d e s q => ?_, fun F' H i e s q => ?_⟩
  · obtain ⟨x, y, q1, q2, rfl⟩ := zipL_get _ _ _ _ q
    obtain ⟨v, ev, en⟩ := t.get q1
    obtain ⟨w, ew, en'⟩ := t'.get q2
    have hs := SqL.of (K := K) (s _ _ (e _ _ h))
    have hs' := SqL.of (K := K) (s _ _ (e _ _ h'))
    refine ⟨⟨vs, ws, v, w, hs, hs', ev, ew⟩, fun x H' ⟨p, y1, y2, e1, hp, e2, hy, hy'⟩ => ?_⟩
    subst e1 e2
    have z1 := hy vs hs
    have z2 := hy' ws hs'
    rw [ev] at z1
    rw [ew] at z2
    cases z1
    cases z2
    exact ⟨_, Al.tup s hp, .tup (.inl (.inl upd_same)) (.cons ((en.ext e).ext (ext_upd (none_of_sub s hp))) (.cons ((en'.ext e).ext (ext_upd (none_of_sub s hp))) .nil))⟩
  · exact ⟨vs, ws, SqL.of (s _ _ (e _ _ h)), SqL.of (s _ _ (e _ _ h')), by rw [t.length, t'.length]; exact zipL_len _ _ _ q⟩
theorem JOk.zipT {K : PySem.W.Frag} {F : Hp} {a b : Addr} {vs ws : List V} {ds es : List D} (h : SqT K F a vs) (t : EncL K F vs ds) (h' : SqT K F b ws) (t' : EncL K F ws es) : JOk K (RZ.ItzT K a b) F (zipL ds es) := by
  refine ⟨fun F' H i d e s q => ?_, fun F' H i e s q => ?_⟩
  · obtain ⟨x, y, q1, q2, rfl⟩ := zipL_get _ _ _ _ q
    obtain ⟨v, ev, en⟩ := t.get q1
    obtain ⟨w, ew, en'⟩ := t'.get q2
    have hs := SqT.ext s (SqT.ext e h)
    have hs' := SqT.ext s (SqT.ext e h')
    refine ⟨⟨vs, ws, v, w, hs, hs', ev, ew⟩, fun x H' ⟨p, y1, y2, e1, hp, e2, hy, hy'⟩ => ?_⟩
    subst e1 e2
    have z1 := hy vs hs
    have z2 := hy' ws hs'
    rw [ev] at z1
    rw [ew] at z2
    cases z1
    cases z2
    exact ⟨_, Al.tup s hp, .tup (.inl (.inl upd_same)) (.cons ((en.ext e).ext (ext_upd (none_of_sub s hp))) (.cons ((en'.ext e).ext (ext_upd (none_of_sub s hp))) .nil))⟩
  · exact ⟨vs, ws, SqT.ext s (SqT.ext e h), SqT.ext s (SqT.ext e h'), by rw [t.length, t'.length]; exact zipL_len _ _ _ q⟩
def zipG : List D → Option (List D)
  | [.list xs, .list ys] => some (zipL xs ys)
  | [.tuple xs, .tuple ys] => some (zipL xs ys)
  | _ => none
theorem i_zip {x y : Expr} (c : Cok G T W k N sc fnc X) (ha : PA X [x, y] (rL T W ml)) (hg : sc.names.lookup ("zip" : Str) = some .globalImplicit) (hm : G.mg "zip" = none) (hs : (noStar x && noStar y) = true := by rfl) :
    PI X (.Tuple elts kk tpos) (.Call (.Name "zip" p) [x, y] [] pos) (rI T W (itL ml zipG)) := by
  rw [Bool.and_eq_true] at hs
  refine PI.mono (RZ.pi_zipA (show X.env.scope.names.lookup _ = _ by rw [c.hs]; exact hg) (by rw [c.hm]; exact hm) ha (star_cons hs.1 _ _) (back_any (by simp [hs.2]))) fun σ H R ⟨F, ρ, rel, h⟩ => ⟨F, ρ, rel, (PostI.ofL h).map fun vs H1 ⟨F1, xs, ds, s, rd, hg, hR⟩ => ?_⟩
  rw [c.hK]
  unfold zipG at hg
  split at hg
  · cases hg
    cases rd with
    | cons en r =>
      cases r with
      | cons en' r =>
        cases r
        cases en with
        | lst h1 t =>
          cases en' with
          | lst h2 t' => exact ⟨_, _, _, _, rfl, .inl ⟨SqL.of (s _ _ h1), SqL.of (s _ _ h2), hR _ (JOk.zip h1 t h2 t')⟩⟩
  · cases hg
    cases rd with
    | cons en r =>
      cases r with
      | cons en' r =>
        cases r
        cases en with
        | tup h1 t =>
          cases en' with
          | tup h2 t' => exact ⟨_, _, _, _, rfl, .inr ⟨SqT.ext s h1, SqT.ext s h2, hR _ (JOk.zipT h1 t h2 t')⟩⟩
  · cases hg

/-! ### for -/
def loopL (g : PM) (body : M Out) : List D → M Out
  | [] => nilM
  | d :: ds => fun ρ => match g d ρ with
    | none => .stuck
    | some ρ1 => match body ρ1 with
      | .ok .nxt ρ2 => loopL g body ds ρ2
      | .ok .cnt ρ2 => loopL g body ds ρ2
      | .ok .brk ρ2 => .ok .nxt ρ2
      | .ok (.ret fl d) ρ2 => .ok (.ret fl d) ρ2
      | .err x ρ2 => .err x ρ2
      | .stuck => .stuck
theorem loop_turns {g : PM} {J : It} {F : Hp} {σ : St} {H : Hp} {ρ : En} {D0 : Ends} {ds : List D} (rel : Rel T.K F σ H ρ) (j : JOk T.K J F ds) (h : PostS T W D0 F σ H ρ (loopL g m1 ds ρ)) :
    ∃ Wi : Nat → Nat → St → Hp → Prop, (∃ m, Wi 0 m σ H) ∧ ∀ i m σ H, Wi i m σ H → (J.stop i H ∧ D0.nx σ H) ∨ (J.go i H ∧ ∃ N : St → Hp → Prop, (∀ σ' H', N σ' H' → ∃ m', m' < m ∧ Wi (i + 1) m' σ' H') ∧ ∀ x H', J.yld i H x H' → rG T g x σ H' fun σ2 H2 => rS T W m1 { D0 with nx := N, ct := N, bk := D0.nx } σ2 H2) := by
  refine ⟨fun i m σ' H' => m = ds.length - i ∧ i ≤ ds.length ∧ ∃ F' ρ', Rel T.K F' σ' H' ρ' ∧ Ext F F' ∧ PostS T W D0 F' σ' H' ρ' (loopL g m1 (ds.drop i) ρ'), ⟨_, rfl, Nat.zero_le _, F, ρ, rel, Ext.refl F, h⟩, ?_⟩
  intro i m σ1 H1 ⟨em, hi, F1, ρ1, rel1, ext1, h1⟩
  by_cases hl : i = ds.length
  · subst hl
    rw [List.drop_length] at h1
    exact .inl ⟨j.stop F1 H1 _ ext1 rel1.sub (Nat.le_refl _), h1 F1 σ1 H1 (Go.refl rel1)⟩
  · have hlt : i < ds.length := by omega
    obtain ⟨jg, jy⟩ := j.go F1 H1 i ds[i] ext1 rel1.sub (List.getElem?_eq_getElem hlt)
    rw [List.drop_eq_getElem_cons hlt] at h1
    refine .inr ⟨jg, fun σ' H' => ∃ F' ρ', Rel T.K F' σ' H' ρ' ∧ Ext F F' ∧ PostS T W D0 F' σ' H' ρ' (loopL g m1 (ds.drop (i + 1)) ρ'), fun σ' H' hN => ⟨ds.length - (i + 1), by omega, rfl, hlt, hN⟩, fun x H2 hy => ?_⟩
    obtain ⟨F2, al, en⟩ := jy x H2 hy
    have g2 := (Al.goE rel1 al).go (pr := T.pr)
    unfold loopL at h1
    cases eg : g ds[i] ρ1 with
    | none => rw [eg] at h1; exact h1.elim
    | some ρ2 =>
      rw [eg] at h1
      refine ⟨F2, ρ1, ds[i], ρ2, g2.rel, en, eg, fun σ3 g3 _ => ⟨F2, ρ2, g3.rel, ?_⟩⟩
      have g23 := g2.trans g3
      simp only at h1
      cases eb : m1 ρ2 with
      | stuck => rw [eb] at h1; exact h1
      | err x ρ3 => rw [eb] at h1; exact fun F' σ' H' c dx g' ex => h1 F' σ' H' c dx (g23.trans g') ex
      | ok o ρ3 =>
        rw [eb] at h1
        cases o with
        | nxt => exact fun F' σ' H' g' => ⟨F', ρ3, g'.rel, ext1.trans (g23.trans g').ext, PostS.later h1 (g23.trans g')⟩
        | cnt => exact fun F' σ' H' g' => ⟨F', ρ3, g'.rel, ext1.trans (g23.trans g').ext, PostS.later h1 (g23.trans g')⟩
        | brk => exact fun F' σ' H' g' => h1 F' σ' H' (g23.trans g')
        | ret fl d => exact PostS.later (r := .ok (.ret fl d) ρ3) h1 g23
def forM (ml : M (List D)) (g : PM) (body : M Out) : M Out := bnd ml fun ds => loopL g body ds
theorem for_read {g : PM} {D0 : Ends} {σ : St} {H : Hp} (h : rS T W (forM ml g m1) D0 σ H) : tFor (rI T W ml) (rG T g) (rS T W m1) D0 σ H := by
  obtain ⟨F, ρ, rel, h⟩ := h
  refine ⟨F, ρ, rel, ?_⟩
  unfold forM bnd at h
  cases e : ml ρ with
  | stuck => rw [e] at h; exact h
  | err x ρ1 => rw [e] at h; exact fun F1 H1 c dx g ex => h F1 σ H1 c dx g.go ex
  | ok ds ρ1 =>
    rw [e] at h
    exact fun F1 H1 J g1 j => loop_turns g1.rel j (PostS.later h (g1.go (pr := T.pr)))
theorem s_for {body : List Stmt} {g : PM} (c : Cok G T W k N sc fnc X) (hp : PassesOwn (model X.prog X.w) X.A X.env X.xe) (hi : PI X tg e (rI T W ml)) (hg : PG X tg (rG T g)) (hb : PSs X body (rS T W m1)) (hs : ∀ x, foldedSetIterable e X.env x = pure x) :
    PS X (.For tg e body [] pos) (rS T W (forM ml g m1)) := PS.mono (ps_for hp c.calm hi hg hb hs) fun _ _ _ => for_read

/-! ### while -/
def whl (c : M Bool) (body : M Out) : Nat → M Out
  | 0 => fun _ => .stuck
  | n + 1 => fun ρ => match c ρ with
    | .stuck => .stuck
    | .err x ρ1 => .err x ρ1
    | .ok false ρ1 => .ok .nxt ρ1
    | .ok true ρ1 => match body ρ1 with
      | .ok .nxt ρ2 => whl c body n ρ2
      | .ok .cnt ρ2 => whl c body n ρ2
      | .ok .brk ρ2 => .ok .nxt ρ2
      | .ok (.ret fl d) ρ2 => .ok (.ret fl d) ρ2
      | .err x ρ2 => .err x ρ2
      | .stuck => .stuck
def okM {α : Type} : Res α → Bool
  | .stuck => false
  | _ => true
open Classical in
noncomputable def whileM (c : M Bool) (body : M Out) : M Out := fun ρ => if h : ∃ n, okM (whl c body n ρ) = true then whl c body h.choose ρ else .stuck
theorem whl_mono (c : M Bool) (body : M Out) : ∀ (n m : Nat) (ρ : En), n ≤ m → okM (whl c body n ρ) = true → whl c body m ρ = whl c body n ρ
  | 0, _, _, _, h => by cases h
  | n + 1, 0, _, hm, _ => by omega
  | n + 1, m + 1, ρ, hm, h => by
    unfold whl at h ⊢
    cases e : c ρ with
    | stuck => rfl
    | err x ρ1 => rfl
    | ok b ρ1 =>
      cases b with
      | false => rfl
      | true =>
        rw [e] at h
        simp only at h ⊢
        cases e1 : body ρ1 with
        | stuck => rfl
        | err x ρ2 => rfl
        | ok o ρ2 =>
          rw [e1] at h
          cases o with
          | nxt => exact whl_mono c body n m ρ2 (by omega) h
          | cnt => exact whl_mono c body n m ρ2 (by omega) h
          | brk => rfl
          | ret fl d => rfl
theorem whileM_eq {c : M Bool} {body : M Out} {ρ : En} (n : Nat) (h : okM (whl c body n ρ) = true) : whileM c body ρ = whl c body n ρ := by
  have hx : ∃ n, okM (whl c body n ρ) = true := ⟨n, h⟩
  unfold whileM
  rw [dif_pos hx]
  rcases Nat.le_total n hx.choose with q | q
  · exact whl_mono c body n _ ρ q h
  · exact (whl_mono c body _ n ρ q hx.choose_spec).symm
theorem while_read {D0 : Ends} {σ : St} {H : Hp} (h : rS T W (whileM tc m1) D0 σ H) : tWhile (rT T W tc) (rS T W m1) D0 σ H := by
  obtain ⟨F, ρ, rel, h⟩ := h
  unfold whileM at h
  split at h
  case isFalse => exact h.elim
  rename_i hx
  refine ⟨fun m σ' H' => ∃ F' ρ', Rel T.K F' σ' H' ρ' ∧ PostS T W D0 F' σ' H' ρ' (whl tc m1 m ρ'), ⟨_, F, ρ, rel, h⟩, ?_⟩
  intro m σ1 H1 ⟨F1, ρ1, rel1, h1⟩
  refine ⟨F1, ρ1, rel1, ?_⟩
  cases m with
  | zero => exact h1.elim
  | succ m =>
    unfold whl at h1
    cases e : tc ρ1 with
    | stuck => rw [e] at h1; exact h1
    | err x ρ2 => rw [e] at h1; exact fun F' H' c dx g ex => h1 F' σ1 H' c dx g.go ex
    | ok b ρ2 =>
      rw [e] at h1
      cases b with
      | false => exact fun F' H' g => h1 F' σ1 H' g.go
      | true =>
        intro F2 H2 g2
        rw [if_pos rfl]
        refine ⟨fun σ' H' => ∃ F' ρ', Rel T.K F' σ' H' ρ' ∧ PostS T W D0 F' σ' H' ρ' (whl tc m1 m ρ'), fun σ' H' hN => ⟨m, Nat.lt_succ_self m, hN⟩, F2, ρ2, g2.rel, ?_⟩
        have g2 := g2.go (pr := T.pr)
        simp only at h1
        cases eb : m1 ρ2 with
        | stuck => rw [eb] at h1; exact h1
        | err x ρ3 => rw [eb] at h1; exact fun F' σ' H' c dx g' ex => h1 F' σ' H' c dx (g2.trans g') ex
        | ok o ρ3 =>
          rw [eb] at h1
          cases o with
          | nxt => exact fun F' σ' H' g' => ⟨F', ρ3, g'.rel, PostS.later h1 (g2.trans g')⟩
          | cnt => exact fun F' σ' H' g' => ⟨F', ρ3, g'.rel, PostS.later h1 (g2.trans g')⟩
          | brk => exact fun F' σ' H' g' => h1 F' σ' H' (g2.trans g')
          | ret fl d => exact PostS.later (r := .ok (.ret fl d) ρ3) h1 g2
theorem s_while {c0 : Expr} {body : List Stmt} (hp : PassesOwn (model X.prog X.w) X.A X.env X.xe) (hc : PT X c0 (rT T W tc)) (hb : PSs X body (rS T W m1)) : PS X (.While c0 body [] pos) (rS T W (whileM tc m1)) := PS.mono (ps_while hp hc hb) fun _ _ _ => while_read
end
end PK
set_option maxHeartbeats 1000000
namespace PK
open PySem PySem.Spec PyProof.Rows L2
/-! ### a dict that is walked: locked -/
section
variable {K : PySem.W.Frag} {F H : Hp} {a : Addr} {kvs : List (Key × V)} {o2 : HO}
/-- o stands for the dict kvs -/
def DkO (kvs : List (Key × V)) (o : HO) : Prop := o = .dK kvs ∨ ∃ od, o = .frz od (.dK kvs)
theorem Rd.swap {o : HO} (h : F a = some o) (d : DkO kvs o) (d2 : DkO kvs o2) {b : Addr} {u : HO} (r : Rd F b u) (hu : ∀ od w, u ≠ .frz od w) : Rd (upd F a o2) b u := by
  by_cases e : b = a
  · subst e
    have : u = .dK kvs := by
      rcases r with q | ⟨od, q⟩
      · rw [h] at q
        cases q
        rcases d with d | ⟨od, d⟩
        · exact d
        · exact absurd d (hu _ _)
      · rw [h] at q
        cases q
        rcases d with d | ⟨od', d⟩
        · cases d
        · cases d; rfl
    subst this
    rcases d2 with d2 | ⟨od, d2⟩
    · exact .inl (by rw [upd_same, d2])
    · exact .inr ⟨od, by rw [upd_same, d2]⟩
  · rcases r with q | ⟨od, q⟩
    · exact .inl (by rw [upd_ne e]; exact q)
    · exact .inr ⟨od, by rw [upd_ne e]; exact q⟩
mutual
theorem Enc.swap {o : HO} (h : F a = some o) (d : DkO kvs o) (d2 : DkO kvs o2) : ∀ {v : V} {x : D}, Enc K F v x → Enc K (upd F a o2) v x
  | _, _, .non => .non
  | _, _, .bl b => .bl b
  | _, _, .int i => .int i
  | _, _, .str x q => .str x q
  | _, _, .lst q t => .lst (by
      rw [upd_ne]
      · exact q
      · intro e; subst e; rw [h] at q; cases q; rcases d with d | ⟨od, d⟩ <;> cases d) (EncL.swap h d d2 t)
  | _, _, .tup q t => .tup (q.elim (fun q => .inl (Rd.swap h d d2 q fun _ _ e => nomatch e)) .inr) (EncL.swap h d d2 t)
  | _, _, .dic q t => .dic (Rd.swap h d d2 q fun _ _ e => nomatch e) (EncK.swap h d d2 t)
  | _, _, .scr q => .scr (q.elim (fun q => .inl (Rd.swap h d d2 q fun _ _ e => nomatch e)) .inr)
theorem EncL.swap {o : HO} (h : F a = some o) (d : DkO kvs o) (d2 : DkO kvs o2) : ∀ {v : List V} {x : List D}, EncL K F v x → EncL K (upd F a o2) v x
  | _, _, .nil => .nil
  | _, _, .cons q t => .cons (Enc.swap h d d2 q) (EncL.swap h d d2 t)
theorem EncK.swap {o : HO} (h : F a = some o) (d : DkO kvs o) (d2 : DkO kvs o2) : ∀ {v : List (Key × V)} {x : List (D × D)}, EncK K F v x → EncK K (upd F a o2) v x
  | _, _, .nil => .nil
  | _, _, .cons p q t => .cons (Enc.swap h d d2 p) (Enc.swap h d d2 q) (EncK.swap h d d2 t)
end
theorem Top.swap {o : HO} (h : F a = some o) (d : DkO kvs o) (d2 : DkO kvs o2) {u : HO} {x : D} (t : Top K F u x) : Top K (upd F a o2) u x := by
  cases t with
  | lst t => exact .lst (t.swap h d d2)
  | dic t => exact .dic (t.swap h d d2)
theorem upd_some {b : Addr} (h : F a = some o2) : (upd F a o2) = F := by
  funext b
  by_cases e : b = a
  · subst e; rw [upd_same, h]
  · rw [upd_ne e]
theorem none_upd {o u : HO} (h : F a = some o) {b : Addr} (e : F b = none) : (upd F a u) b = none := by
  rw [upd_ne]
  · exact e
  · intro q; subst q; rw [h] at e; cases e
theorem upd_none {o u : HO} (h : F a = some o) {b : Addr} (e : (upd F a u) b = none) : F b = none := by
  by_cases q : b = a
  · subst q; rw [upd_same] at e; cases e
  · rw [upd_ne q] at e; exact e
theorem Rel.swap {σ : St} {ρ : En} {o : HO} (r : Rel K F σ H ρ) (h : F a = some o) (d : DkO kvs o) (d2 : DkO kvs o2) : Rel K (upd F a o2) σ (upd H a o2) ρ := by
  refine ⟨fun b u e => ?_, r.len, fun i c e => ?_, r.sep⟩
  · by_cases q : b = a
    · subst q; rw [upd_same] at e ⊢; exact e
    · rw [upd_ne q] at e ⊢; exact r.sub _ _ e
  · obtain ⟨v, ev, cc⟩ := r.cell i c e
    refine ⟨v, ev, ?_⟩
    cases cc with
    | shr x => exact .shr (x.swap h d d2)
    | own h1 h2 h3 =>
      refine .own (none_upd h h1) ?_ (h3.swap h d d2)
      rw [upd_ne]
      · exact h2
      · intro q; subst q; rw [h] at h1; cases h1
/-- the walk of a locked dict, unlocked at its end -/
theorem Go.unlock {pr : Nat → Bool} {F' H' : Hp} {σ σ' : St} {ρ ρ' : En} {od : Obj} (hF : F a = some (.dK kvs)) (r : Rel K F σ H ρ) (g : Go K pr (upd F a (.frz od (.dK kvs))) σ (upd H a (.frz od (.dK kvs))) ρ F' σ' H' ρ') :
    H' a = some (.frz od (.dK kvs)) ∧ F' a = some (.frz od (.dK kvs)) ∧ Go K pr F σ H ρ (upd F' a (.dK kvs)) σ' (upd H' a (.dK kvs)) ρ' := by
  have e1 : F' a = some (.frz od (.dK kvs)) := g.ext _ _ upd_same
  have e2 := g.rel.sub _ _ e1
  have nown : ¬ Own σ ρ a := fun q => by
    have := (r.ownIn q).1
    rw [hF] at this; cases this
  refine ⟨e2, e1, ⟨g.rel.swap e1 (.inr ⟨_, rfl⟩) (.inl rfl), fun b u e => ?_, fun b e e' => ?_, fun b u e no => ?_, fun b e => ?_, fun b e => ?_, g.prot⟩⟩
  · by_cases q : b = a
    · subst q; rw [hF] at e; rw [upd_same, e]
    · rw [upd_ne q]
      exact g.ext b u (by rw [upd_ne q]; exact e)
  · have q : b ≠ a := fun q => by subst q; rw [hF] at e; cases e
    rw [upd_ne q] at e'
    rcases g.new b (by rw [upd_ne q]; exact e) e' with z | z
    · rw [upd_ne q] at z; exact .inl z
    · exact .inr z
  · by_cases q : b = a
    · subst q
      rw [r.sub _ _ hF] at e
      rw [upd_same, e]
    · rw [upd_ne q]
      exact g.keep b u (by rw [upd_ne q]; exact e) no
  · have q : b ≠ a := fun q => by subst q; rw [upd_same] at e; cases e
    rw [upd_ne q] at e
    have := g.dom b e
    rw [upd_ne q] at this
    exact this
  · rcases g.own b e with z | z
    · exact .inl z
    · have q : b ≠ a := fun q => by subst q; rw [upd_same] at z; cases z
      rw [upd_ne q] at z
      exact .inr z
theorem ValOk.unlock {F' H' : Hp} {σ σ' : St} {ρ ρ' : En} {od : Obj} {fl : Bool} {v : V} {d : D} (hF : F' a = some (.frz od (.dK kvs))) (x : ValOk K σ (upd H a (.frz od (.dK kvs))) ρ F' H' σ' ρ' fl v d) :
    ValOk K σ H ρ (upd F' a (.dK kvs)) (upd H' a (.dK kvs)) σ' ρ' fl v d := by
  cases x with
  | shr x => exact .shr (x.swap hF (.inr ⟨_, rfl⟩) (.inl rfl))
  | @own b o _ h1 h2 h3 h4 h5 =>
    have q : b ≠ a := fun q => by subst q; rw [hF] at h1; cases h1
    refine .own (by rw [upd_ne q]; exact h1) (by rw [upd_ne q]; exact h2) (h3.swap hF (.inr ⟨_, rfl⟩) (.inl rfl)) ?_ h5
    rw [upd_ne q] at h4
    exact h4
end
/-- no exception leaves it -/
def noErr {α : Type} (m : M α) : M α := fun ρ => match m ρ with
  | .ok a ρ' => .ok a ρ'
  | _ => .stuck
theorem EncK.keys {K : PySem.W.Frag} {F : Hp} : ∀ {kvs : List (Key × V)} {ds : List (D × D)} {i : Nat} {d : D}, EncK K F kvs ds → (ds.map (·.1))[i]? = some d → ∃ k v, kvs[i]? = some (k, v) ∧ Enc K F (kV k) d
  | _, _, _, _, .nil, e => by simp at e
  | _, _, 0, _, .cons h _ _, e => by simp at e; subst e; exact ⟨_, _, rfl, h⟩
  | _, _, i + 1, d, .cons _ _ t, e => by
    obtain ⟨k, v, h1, h2⟩ := EncK.keys (i := i) (d := d) t (by simpa using e)
    exact ⟨k, v, by simpa using h1, h2⟩
theorem JOk.keys {K : PySem.W.Frag} {F : Hp} {a : Addr} {od : Obj} {kvs : List (Key × V)} {ds : List (D × D)} (h : F a = some (.frz od (.dK kvs))) (t : EncK K F kvs ds) : JOk K (Itk a od kvs) F (ds.map (·.1)) := by
  refine ⟨fun F' H i d e s q => ?_, fun F' H i e s q => ?_⟩
  · obtain ⟨k, v, e1, en⟩ := t.keys q
    have hs := s _ _ (e _ _ h)
    refine ⟨⟨hs, (List.getElem?_eq_some_iff.mp e1).1⟩, fun x H' ⟨e2, k', v', e3, e4⟩ => ?_⟩
    subst e2 e4
    rw [e1] at e3
    cases e3
    exact ⟨F', Al.refl s, en.ext e⟩
  · exact ⟨s _ _ (e _ _ h), by rw [t.length]; simpa using q⟩
section
variable {G : G0} {T : XT} {W : WX} {k : Nat} {N : List Str} {sc : Scope} {fnc : Str → Bool} {X : Cx} {pos p tpos : Pos} {tg a b e : Expr} {es elts : List Expr} {kk : Nat} {ma mb mc : M Tok} {na nb nc : M (Bool × D)} {ms : M (List Tok)} {ml : M (List D)} {tc : M Bool} {m1 m2 : M Out}
theorem PostS.lock {a : Addr} {D0 : Ends} {F H : Hp} {σ : St} {ρ : En} {r : Res Out} {od : Obj} {kvs : List (Key × V)} (hF : F a = some (.dK kvs)) (rel : Rel T.K F σ H ρ) (hr : ∀ x ρ', r ≠ .err x ρ') (h : PostS T W D0 F σ H ρ r) :
    PostS T W ⟨fun σ' H' => H' a = some (.frz od (.dK kvs)) ∧ D0.nx σ' (upd H' a (.dK kvs)), fun v H' => H' a = some (.frz od (.dK kvs)) ∧ D0.rt v (upd H' a (.dK kvs)), fun σ' H' => H' a = some (.frz od (.dK kvs)) ∧ D0.bk σ' (upd H' a (.dK kvs)), fun σ' H' => H' a = some (.frz od (.dK kvs)) ∧ D0.ct σ' (upd H' a (.dK kvs))⟩ (upd F a (.frz od (.dK kvs))) σ (upd H a (.frz od (.dK kvs))) ρ r := by
  cases r with
  | stuck => exact h
  | err x ρ' => exact absurd rfl (hr x ρ')
  | ok o ρ' =>
    cases o with
    | nxt => exact fun F' σ' H' g => ⟨(Go.unlock hF rel g).1, h _ σ' _ (Go.unlock hF rel g).2.2⟩
    | brk => exact fun F' σ' H' g => ⟨(Go.unlock hF rel g).1, h _ σ' _ (Go.unlock hF rel g).2.2⟩
    | cnt => exact fun F' σ' H' g => ⟨(Go.unlock hF rel g).1, h _ σ' _ (Go.unlock hF rel g).2.2⟩
    | ret fl d => exact fun F' σ' H' v g x => ⟨(Go.unlock hF rel g).1, h _ σ' _ v (Go.unlock hF rel g).2.2 (x.unlock (Go.unlock hF rel g).2.1)⟩
theorem frz1_step {K : PySem.W.Frag} {F H : Hp} {σ : St} {ρ : En} {i : Nat} {fl : Bool} {d : D} (rel : Rel K F σ H ρ) (e : ρ.getD i none = some (fl, d)) :
    ∃ F' v, σ[i]? = some (some v) ∧ GoE K F σ H ρ F' H (frz1 ρ i) ∧ Enc K F' v d := by
  unfold frz1
  rw [e]
  cases fl with
  | true => exact freeze_slot rel e
  | false =>
    obtain ⟨v, ev, c⟩ := rel.cell i _ (getD_cell e)
    cases c with
    | shr h => exact ⟨F, v, ev, GoE.refl rel, h⟩
/-- a name that is walked: a list, a tuple, a text, or a dict (locked) -/
def forN (i : Nat) (g : PM) (body : M Out) : M Out := fun ρ => match ρ.getD i none with
  | some (_, .dict ds) => if isDic ds then noErr (loopL g body (ds.map (·.1))) (frz1 ρ i) else .stuck
  | _ => forM (itM (rV i)) g body ρ
theorem noErr_ne {α : Type} {m : M α} {ρ : En} : ∀ x ρ', noErr m ρ ≠ .err x ρ' := by
  intro x ρ' h
  unfold noErr at h
  split at h <;> cases h
theorem noErr_post {D0 : Ends} {F H : Hp} {σ : St} {ρ : En} {m : M Out} (h : PostS T W D0 F σ H ρ (noErr m ρ)) : PostS T W D0 F σ H ρ (m ρ) ∧ ∀ x ρ', m ρ ≠ .err x ρ' := by
  unfold noErr at h
  cases e : m ρ with
  | ok a ρ' => rw [e] at h; exact ⟨h, fun x ρ' q => nomatch q⟩
  | err x ρ' => rw [e] at h; exact h.elim
  | stuck => rw [e] at h; exact h.elim
theorem s_forN {x : Str} {i : Nat} {body : List Stmt} {g : PM} (c : Cok G T W k N sc fnc X) (hp : PassesOwn (model X.prog X.w) X.A X.env X.xe) (hi : N[i]? = some x) (hv : visB sc x = true) (hg : PG X tg (rG T g)) (hb : PSs X body (rS T W m1)) (hd : (x == ("__debug__" : Str)) = false := by decide) (hcd : (x == ("__classdict__" : Str)) = false := by decide) :
    PS X (.For tg (.Name x p) body [] pos) (rS T W (forN i g m1)) := by
  have h1 := s_for (pos := pos) c hp (i_val (tg := tg) c (e_var (pos := p) c hi hv hd hcd)) hg hb (fun _ => rfl)
  have h2 : PS X (.For tg (.Name x p) body [] pos) _ := ps_for hp c.calm (pi_keys (tg := tg) (pe_var (pos := p) (i := i) (by rw [c.hN]; exact hi) (by rw [c.hs]; exact vis_of hv) hd hcd)) hg hb (fun _ => rfl)
  refine PS.mono (PS.or h1 (PS.or h2 (ps_lock h2))) fun D0 σ H ⟨F, ρ, rel, h⟩ => ?_
  unfold forN at h
  split at h
  · rename_i fl ds e
    split at h
    case isFalse => exact h.elim
    rename_i hds
    obtain ⟨F1, v, ev, g1, en⟩ := frz1_step rel e
    have h := PostS.later h (g1.go (pr := T.pr))
    obtain ⟨h, ne⟩ := noErr_post h
    cases en with
    | scr _ => cases hds
    | @dic a kvs _ hr t =>
      rcases hr with hr | ⟨od, hr⟩
      · refine .inr (.inr ⟨a, .dK kvs, g1.rel.sub _ _ hr, trivial, fun od => ?_⟩)
        have r2 := g1.rel.swap hr (.inl rfl) (o2 := .frz od (.dK kvs)) (.inr ⟨_, rfl⟩)
        have h := PostS.lock (od := od) hr g1.rel ne h
        exact ⟨_, ev, a, od, rfl, .inl ⟨kvs, upd_same, loop_turns r2 (JOk.keys upd_same (t.swap hr (.inl rfl) (.inr ⟨_, rfl⟩))) h⟩⟩
      · exact .inr (.inl (⟨_, ev, a, od, rfl, .inl ⟨kvs, g1.rel.sub _ _ hr, loop_turns g1.rel (JOk.keys hr t) h⟩⟩))
  · exact .inl ⟨F, ρ, rel, h⟩
end
end PK
set_option maxHeartbeats 1000000
namespace PK
open PySem PySem.Spec PyProof.Rows L2
/-! ### a comprehension's own slots -/
def wipeE (ρ : En) : List Nat → En
  | [] => ρ
  | v :: vs => (wipeE ρ vs).set v none
def backE (ρ ρ' : En) : List Nat → En
  | [] => ρ'
  | v :: vs => (backE ρ ρ' vs).set v (ρ.getD v none)
theorem wipeE_len (ρ : En) : ∀ vs, (wipeE ρ vs).length = ρ.length
  | [] => rfl
  | v :: vs => by unfold wipeE; rw [List.length_set, wipeE_len ρ vs]
theorem backE_len (ρ ρ' : En) : ∀ vs, (backE ρ ρ' vs).length = ρ'.length
  | [] => rfl
  | v :: vs => by unfold backE; rw [List.length_set, backE_len ρ ρ' vs]
theorem wipeE_out {ρ : En} {i : Nat} : ∀ {vs : List Nat}, i ∉ vs → (wipeE ρ vs)[i]? = ρ[i]?
  | [], _ => rfl
  | v :: vs, h => by
    have h1 : v ≠ i := fun e => h (by rw [e]; exact List.mem_cons_self)
    have h2 : i ∉ vs := fun m => h (List.mem_cons_of_mem _ m)
    unfold wipeE
    rw [List.getElem?_set_ne h1]
    exact wipeE_out h2
theorem wipeE_in {ρ : En} {i : Nat} {x : Bool × D} : ∀ {vs : List Nat}, i ∈ vs → (wipeE ρ vs)[i]? ≠ some (some x)
  | v :: vs, h, e => by
    unfold wipeE at e
    by_cases q : v = i
    · subst q
      rw [List.getElem?_set] at e
      split at e
      · split at e <;> cases e
      · rename_i z; exact z rfl
    · rw [List.getElem?_set_ne q] at e
      exact wipeE_in (by simpa [Ne.symm q] using h) e
theorem wipeE_none {ρ : En} {i : Nat} : ∀ {vs : List Nat}, i ∈ vs → i < ρ.length → (wipeE ρ vs)[i]? = some none
  | v :: vs, h, hl => by
    unfold wipeE
    by_cases q : v = i
    · subst q
      rw [List.getElem?_set_self (by rw [wipeE_len]; exact hl)]
    · rw [List.getElem?_set_ne q]
      exact wipeE_none (by simpa [Ne.symm q] using h) hl
theorem backE_out {ρ ρ' : En} {i : Nat} : ∀ {vs : List Nat}, i ∉ vs → (backE ρ ρ' vs)[i]? = ρ'[i]?
  | [], _ => rfl
  | v :: vs, h => by
    have h1 : v ≠ i := fun e => h (by rw [e]; exact List.mem_cons_self)
    have h2 : i ∉ vs := fun m => h (List.mem_cons_of_mem _ m)
    unfold backE
    rw [List.getElem?_set_ne h1]
    exact backE_out h2
theorem backE_in {ρ ρ' : En} {i : Nat} : ∀ {vs : List Nat}, i ∈ vs → i < ρ'.length → (backE ρ ρ' vs)[i]? = some (ρ.getD i none)
  | v :: vs, h, hl => by
    unfold backE
    by_cases q : v = i
    · subst q
      rw [List.getElem?_set_self (by rw [backE_len]; exact hl)]
    · rw [List.getElem?_set_ne q]
      exact backE_in (by simpa [Ne.symm q] using h) hl
theorem wipe_out' {σ : St} {i : Nat} : ∀ {vs : List Nat}, i ∉ vs → (wipe σ vs)[i]? = σ[i]?
  | [], _ => rfl
  | v :: vs, h => by
    have h1 : v ≠ i := fun e => h (by rw [e]; exact List.mem_cons_self)
    have h2 : i ∉ vs := fun m => h (List.mem_cons_of_mem _ m)
    unfold wipe
    rw [List.getElem?_set_ne h1]
    exact wipe_out' h2
theorem wipe_none {σ : St} {i : Nat} : ∀ {vs : List Nat}, i ∈ vs → i < σ.length → (wipe σ vs)[i]? = some none
  | v :: vs, h, hl => by
    unfold wipe
    by_cases q : v = i
    · subst q
      rw [List.getElem?_set_self (by rw [wipe_length]; exact hl)]
    · rw [List.getElem?_set_ne q]
      exact wipe_none (by simpa [Ne.symm q] using h) hl
theorem wipe_ext {σ σ' : St} {vs : List Nat} (hl : σ'.length = σ.length) (h : ∀ i, i ∉ vs → σ'[i]? = σ[i]?) : wipe σ' vs = wipe σ vs := by
  apply List.ext_getElem?
  intro i
  by_cases e : i ∈ vs
  · by_cases hi : i < σ.length
    · rw [wipe_none e (by omega), wipe_none e hi]
    · rw [List.getElem?_eq_none (by rw [wipe_length]; omega), List.getElem?_eq_none (by rw [wipe_length]; omega)]
  · rw [wipe_out' e, wipe_out' e, h i e]
theorem wipe_wipe (σ : St) (vs : List Nat) : wipe (wipe σ vs) vs = wipe σ vs := wipe_ext (wipe_length _ _) fun i h => wipe_out' h
def prV (vs : List Nat) : Nat → Bool := fun i => !(vs.contains i)
theorem prV_of {vs : List Nat} {i : Nat} (h : i ∉ vs) : prV vs i = true := by
  unfold prV
  simpa using h
section
variable {K : PySem.W.Frag} {pr : Nat → Bool} {F F1 F2 H H1 H2 : Hp} {σ σ1 σ2 : St} {ρ ρ1 ρ2 : En} {vs : List Nat}
theorem Own.unwipe {a : Addr} (h : Own (wipe σ vs) (wipeE ρ vs) a) : Own σ ρ a ∧ ∃ (i : Nat) (d : D), i ∉ vs ∧ ρ[i]? = some (some (true, d)) ∧ σ[i]? = some (some (.ref a)) := by
  obtain ⟨i, d, e, es⟩ := h
  have hi : i ∉ vs := fun m => wipeE_in m e
  rw [wipeE_out hi] at e
  rw [wipe_out' hi] at es
  exact ⟨⟨i, d, e, es⟩, i, d, hi, e, es⟩
theorem Rel.wipe (r : Rel K F σ H ρ) (vs : List Nat) : Rel K F (wipe σ vs) H (wipeE ρ vs) := by
  refine ⟨r.sub, by rw [wipe_length, wipeE_len, r.len], fun i c e => ?_, fun i j a d e h1 h2 s1 s2 => ?_⟩
  · have hi : i ∉ vs := fun m => wipeE_in m e
    rw [wipeE_out hi] at e
    rw [wipe_out' hi]
    exact r.cell i c e
  · have hi : i ∉ vs := fun m => wipeE_in m h1
    have hj : j ∉ vs := fun m => wipeE_in m h2
    rw [wipeE_out hi] at h1
    rw [wipeE_out hj] at h2
    rw [wipe_out' hi] at s1
    rw [wipe_out' hj] at s2
    exact r.sep i j a d e h1 h2 s1 s2
/-- a turn of a comprehension, as one step (D: the object being made) -/
structure Turn1 (K : PySem.W.Frag) (vs : List Nat) (F : Hp) (σ : St) (H : Hp) (ρ : En) (F' : Hp) (σ' : St) (H' : Hp) (ρ' : En) : Prop where
  go : Go K (prV vs) F σ H ρ F' σ' H' ρ'
  len : ρ'.length = ρ.length
  own : ∀ (i : Nat) (d : D), i ∉ vs → ρ'[i]? = some (some (true, d)) → ∃ e, ρ[i]? = some (some (true, e))
  dead : ∀ (i : Nat), i ∉ vs → ρ[i]? = some none → ρ'[i]? = some none
theorem Rel.lenE (r : Rel K F σ H ρ) (r' : Rel K F1 σ H1 ρ1) : ρ1.length = ρ.length := by rw [← r.len, ← r'.len]
theorem GoE.turn1 (r : Rel K F σ H ρ) (g : GoE K F σ H ρ F1 H1 ρ1) : Turn1 K vs F σ H ρ F1 σ H1 ρ1 := ⟨g.go, r.lenE g.rel, fun i d _ e => g.own i d e, fun i _ e => g.dead i e⟩
theorem Turn1.ofPr (g : Go K (prV vs) F σ H ρ F1 σ1 H1 ρ1) (p : PrE (prV vs) ρ ρ1) : Turn1 K vs F σ H ρ F1 σ1 H1 ρ1 := ⟨g, p.1, fun i d h e => ⟨d, by rw [← p.2 i (prV_of h)]; exact e⟩, fun i h e => by rw [p.2 i (prV_of h)]; exact e⟩
theorem Turn1.trans (a : Turn1 K vs F σ H ρ F1 σ1 H1 ρ1) (b : Turn1 K vs F1 σ1 H1 ρ1 F2 σ2 H2 ρ2) : Turn1 K vs F σ H ρ F2 σ2 H2 ρ2 :=
  ⟨a.go.trans b.go, b.len.trans a.len, fun i d h e => (b.own i d h e).elim fun e' q => a.own i e' h q, fun i h e => b.dead i h (a.dead i h e)⟩
theorem Turn1.wipe (h0 : σ.length = ρ.length) (a : Turn1 K vs F σ H ρ F1 σ1 H1 ρ1) : L2.wipe σ1 vs = L2.wipe σ vs := wipe_ext (by rw [a.go.rel.len, a.len, h0]) fun i h => a.go.prot i (prV_of h)
/-- the base, a turn, the object changed: the base again -/
theorem Turn1.next {D0 : Addr} {Hn : Hp} (b : GoE K F (L2.wipe σ vs) H ρ F1 H1 ρ1) (t : Turn1 K vs F1 (L2.wipe σ vs) H1 ρ1 F2 σ2 H2 ρ2) (hD : H D0 = none) (fD : F1 D0 = none) (dD : H1 D0 ≠ none) (hn : ∀ a, a ≠ D0 → Hn a = H2 a) (hnD : Hn D0 ≠ none)
    (r0 : Rel K F (L2.wipe σ vs) H ρ) : F2 D0 = none ∧ GoE K F (L2.wipe σ vs) H ρ F2 Hn (wipeE ρ2 vs) := by
  have n1 : ¬ Own (L2.wipe σ vs) ρ1 D0 := fun q => by
    obtain ⟨_, o, e⟩ := r0.ownIn (b.ownSub q)
    rw [hD] at e; cases e
  have n2 : ¬ Own σ2 ρ2 D0 := fun q => by
    rcases t.go.own D0 q with z | z
    · exact n1 z
    · exact dD z
  have f2 : F2 D0 = none := by
    cases e : F2 D0 with
    | none => rfl
    | some o =>
      rcases t.go.new D0 fD (by rw [e]; simp) with z | z
      · exact absurd z dD
      · exact absurd z n1
  have g := (b.go (pr := prV vs)).trans t.go
  have hw : L2.wipe σ2 vs = L2.wipe σ vs := by rw [t.wipe b.rel.len, wipe_wipe]
  have r2 := t.go.rel.wipe vs
  rw [hw] at r2
  refine ⟨f2, ⟨⟨fun a o e => ?_, r2.len, fun i c e => ?_, r2.sep⟩, g.ext, g.new, fun a o e no => ?_, fun a e => ?_, fun i d e => ?_, fun i e => ?_⟩⟩
  · rw [hn a (fun q => by subst q; rw [f2] at e; cases e)]
    exact r2.sub a o e
  · obtain ⟨v, ev, cc⟩ := r2.cell i c e
    refine ⟨v, ev, ?_⟩
    cases cc with
    | shr x => exact .shr x
    | @own a o d h1 h2 h3 =>
      refine .own h1 ?_ h3
      rw [hn a]
      · exact h2
      · intro q
        subst q
        rw [← hw] at ev
        exact n2 (Own.unwipe ⟨i, d, e, ev⟩).1
  · rw [hn a (fun q => by subst q; rw [hD] at e; cases e)]
    exact g.keep a o e no
  · by_cases q : a = D0
    · rw [q]; exact hD
    · rw [hn a q] at e
      exact g.dom a e
  · have hi : i ∉ vs := fun m => wipeE_in m e
    rw [wipeE_out hi] at e
    obtain ⟨e1, q1⟩ := t.own i d hi e
    exact b.own i e1 q1
  · by_cases hi : i ∈ vs
    · refine wipeE_none hi ?_
      have l1 := (List.getElem?_eq_some_iff.mp e).1
      have := t.len
      have l2 := r0.lenE b.rel
      omega
    · rw [wipeE_out hi]
      exact t.dead i hi (b.dead i e)
/-- a comprehension left: its own slots as before -/
theorem GoE.unwipe (r : Rel K F σ H ρ) (g : GoE K F (L2.wipe σ vs) H (wipeE ρ vs) F1 H1 ρ1) : GoE K F σ H ρ F1 H1 (backE ρ ρ1 vs) := by
  have l1 : ρ1.length = ρ.length := by rw [← g.rel.len, wipe_length, r.len]
  have cellIn : ∀ {i : Nat} {c : Bool × D}, i ∈ vs → (backE ρ ρ1 vs)[i]? = some (some c) → ρ[i]? = some (some c) := fun {i c} hi e => by
    have hl := (List.getElem?_eq_some_iff.mp e).1
    rw [backE_len] at hl
    rw [backE_in hi hl] at e
    exact getD_cell (by simpa using e)
  have ownOut : ∀ {i : Nat} {d : D}, i ∉ vs → (backE ρ ρ1 vs)[i]? = some (some (true, d)) → ∃ e, ρ[i]? = some (some (true, e)) := fun {i d} hi e => by
    rw [backE_out hi] at e
    obtain ⟨e', q⟩ := g.own i d e
    rw [wipeE_out hi] at q
    exact ⟨e', q⟩
  have ownAny : ∀ {i : Nat} {d : D}, (backE ρ ρ1 vs)[i]? = some (some (true, d)) → ∃ e, ρ[i]? = some (some (true, e)) := fun {i d} e => by
    by_cases hi : i ∈ vs
    · exact ⟨d, cellIn hi e⟩
    · exact ownOut hi e
  refine ⟨⟨g.rel.sub, by rw [backE_len, l1, r.len], fun i c e => ?_, fun i j a d e h1 h2 s1 s2 => ?_⟩, g.ext, fun a h h' => ?_, fun a o h no => ?_, g.dom, fun i d e => ownAny e, fun i e => ?_⟩
  · by_cases hi : i ∈ vs
    · have q := cellIn hi e
      obtain ⟨v, ev, cc⟩ := r.cell i c q
      refine ⟨v, ev, ?_⟩
      cases cc with
      | shr x => exact .shr (x.ext g.ext)
      | @own a o d h1 h2 h3 =>
        have no : ¬ Own (L2.wipe σ vs) (wipeE ρ vs) a := fun z => by
          obtain ⟨_, j, d', hj, q1, q2⟩ := z.unwipe
          have := r.sep i j a _ _ q q1 ev q2
          subst this
          exact hj hi
        refine .own ?_ (g.keep a o h2 no) (h3.ext g.ext)
        cases z : F1 a with
        | none => rfl
        | some o' =>
          rcases g.new a h1 (by rw [z]; simp) with y | y
          · rw [h2] at y; cases y
          · exact absurd y no
    · rw [backE_out hi] at e
      obtain ⟨v, ev, cc⟩ := g.rel.cell i c e
      rw [wipe_out' hi] at ev
      exact ⟨v, ev, cc⟩
  · by_cases hi : i ∈ vs
    · by_cases hj : j ∈ vs
      · exact r.sep i j a _ _ (cellIn hi h1) (cellIn hj h2) s1 s2
      · obtain ⟨e', q⟩ := ownOut hj h2
        exact r.sep i j a _ _ (cellIn hi h1) q s1 s2
    · by_cases hj : j ∈ vs
      · obtain ⟨e', q⟩ := ownOut hi h1
        exact r.sep i j a _ _ q (cellIn hj h2) s1 s2
      · rw [backE_out hi] at h1
        rw [backE_out hj] at h2
        exact g.rel.sep i j a _ _ h1 h2 (by rw [wipe_out' hi]; exact s1) (by rw [wipe_out' hj]; exact s2)
  · rcases g.new a h h' with z | z
    · exact .inl z
    · exact .inr z.unwipe.1
  · exact g.keep a o h fun z => no z.unwipe.1
  · have hl := (List.getElem?_eq_some_iff.mp e).1
    by_cases hi : i ∈ vs
    · rw [backE_in hi (by omega), List.getD_eq_getElem?_getD, e]; rfl
    · rw [backE_out hi]
      exact g.dead i (by rw [wipeE_out hi]; exact e)
end

/-! ### the block's context -/
/-- within a comprehension: no exception leaves it, only its own slots are stored -/
def WF : WX := fun _ _ _ _ => False
def XT.blk (T : XT) (vs : List Nat) : XT := { T with pr := prV vs }
section
variable {G : G0} {T : XT} {W : WX} {k : Nat} {N : List Str} {sc : Scope} {fnc : Str → Bool} {X : Cx} {pos p tpos : Pos} {tg a b e elt iter kx vx : Expr} {es elts ifs : List Expr} {kk : Nat} {ma mb mc : M Tok} {na nb nc : M (Bool × D)} {ms : M (List Tok)} {ml : M (List D)} {tc : M Bool} {m1 m2 : M Out} {scope : Scope} {own : List (Str × Nat)}
theorem Cok.blk (c : Cok G T W k N sc fnc X) (scope : Scope) (vs : List Nat) (s : Shared) (H : Hp) (C : Addr) (cl : List (Str × Addr)) (fp : List Addr) :
    Cok G (T.blk vs) WF k N (relS scope sc) (fun x => scope.names.lookup x == some .cell) (X.blk s H scope (compEnvC scope cl C X.env) fp) :=
  ⟨c.hP, c.hw, c.hK, c.hm, c.hb, c.hN, c.nd, by rw [← c.hs]; rfl, c.calm, c.room, fun σ pins H s e s' I x => by
    obtain ⟨a, B, H', cls, d, h⟩ := x
    exact h.2.2.2.2.2.2.2.elim, rfl⟩
def yesM : M Bool := fun ρ => .ok true ρ
theorem PTs.mono {X : Cx} {e : List Expr} {t t' : TT} (h : PTs X e t) (k : ∀ σ H Q, t' σ H Q → t σ H Q) : PTs X e t' := ⟨fun pins s σ H Q I q => h.run pins s σ H Q I (k σ H Q q)⟩
theorem ts_nil : PTs X [] (rT T W yesM) := PTs.mono pts_nil fun σ H Q ⟨F, ρ, rel, h⟩ => h F H (GoE.refl rel)
theorem ts_one (h : PT X e (rT T W tc)) : PTs X [e] (rT T W tc) := pts_one h
def lcL (vs : List Nat) (g : PM) (tt : M Bool) (te : M (Bool × D)) : List D → M (List D)
  | [] => fun ρ => .ok [] ρ
  | d :: ds => fun ρ => match g d ρ with
    | none => .stuck
    | some ρ1 => match tt ρ1 with
      | .ok true ρ2 => (match te ρ2 with
        | .ok x ρ3 => (match lcL vs g tt te ds (wipeE ρ3 vs) with
          | .ok xs ρ4 => .ok (x.2 :: xs) ρ4
          | _ => .stuck)
        | _ => .stuck)
      | .ok false ρ2 => lcL vs g tt te ds (wipeE ρ2 vs)
      | _ => .stuck
def lcM (vs : List Nat) (ml : M (List D)) (g : PM) (tt : M Bool) (te : M (Bool × D)) : M (Bool × D) := bnd ml fun ds ρ => match lcL vs g tt te ds (wipeE ρ vs) with
  | .ok xs ρ' => if xs.length ≤ LIM then .ok (true, .list xs) (backE ρ ρ' vs) else .stuck
  | _ => .stuck
theorem lc_turns {g : PM} {J : It} {F : Hp} {σ : St} {H : Hp} {ρ ρ' : En} {Q : VK} {ds xs : List D} {vs : List Nat} {D0 : Addr} (rel : Rel T.K F σ H ρ) (j : JOk T.K J F ds) (hD : H D0 = none) (h : lcL vs g tc na ds (wipeE ρ vs) = .ok xs ρ') (hx : xs.length ≤ LIM)
    (hQ : ∀ F' H' vacc, GoE T.K F σ H ρ F' H' (backE ρ ρ' vs) → F' D0 = none → H' D0 = some (.lst vacc) → EncL T.K F' vacc xs → Q (.ref D0) H') :
    ∃ Wi : Nat → Nat → Hp → Prop, (∃ m, Wi 0 m (upd H D0 (.lst []))) ∧ ∀ i m H, Wi i m H → (J.stop i H ∧ Q (.ref D0) H) ∨ (J.go i H ∧ ∃ Nx : Hp → Prop, (∀ H', Nx H' → ∃ m', m' < m ∧ Wi (i + 1) m' H') ∧ ∀ x H', J.yld i H x H' →
      rG (T.blk vs) g x (wipe σ vs) H' fun σ2 H2 => wipe σ2 vs = wipe σ vs ∧ rT (T.blk vs) WF tc σ2 H2 fun b H3 => if b = true then rE (T.blk vs) WF na σ2 H3 fun y H4 => ∃ acc, H4 D0 = some (.lst acc) ∧ acc.length < sizeLine ∧ Nx (upd H4 D0 (.lst (acc ++ [y]))) else Nx H3) := by
  have r0 := rel.wipe vs
  let P : Nat → Hp → Prop := fun i H' => ∃ F' ρ1 vacc acc rest, GoE T.K F (wipe σ vs) H (wipeE ρ vs) F' H' ρ1 ∧ F' D0 = none ∧ H' D0 = some (.lst vacc) ∧ EncL T.K F' vacc acc ∧ lcL vs g tc na (ds.drop i) ρ1 = .ok rest ρ' ∧ acc ++ rest = xs
  refine ⟨fun i m H' => m = ds.length - i ∧ i ≤ ds.length ∧ P i H', ⟨_, rfl, Nat.zero_le _, ?_⟩, ?_⟩
  · have a := Al.one (o := .lst []) rel.sub hD
    exact ⟨F, wipeE ρ vs, [], [], xs, Al.goE r0 a, none_of_sub rel.sub hD, upd_same, .nil, h, rfl⟩
  · intro i m H1 ⟨em, hi, F1, ρ1, vacc, acc, rest, g1, f1, d1, en1, h1, hxs⟩
    by_cases hl : i = ds.length
    · subst hl
      rw [List.drop_length] at h1
      have h1 : Res.ok [] ρ1 = Res.ok rest ρ' := h1
      cases h1
      rw [List.append_nil] at hxs
      subst hxs
      exact .inl ⟨j.stop F1 H1 _ g1.ext g1.rel.sub (Nat.le_refl _), hQ F1 H1 vacc (GoE.unwipe rel g1) f1 d1 en1⟩
    · have hlt : i < ds.length := by omega
      obtain ⟨jg, jy⟩ := j.go F1 H1 i ds[i] g1.ext g1.rel.sub (List.getElem?_eq_getElem hlt)
      rw [List.drop_eq_getElem_cons hlt] at h1
      refine .inr ⟨jg, P (i + 1), fun H' hN => ⟨ds.length - (i + 1), by omega, rfl, hlt, hN⟩, fun x H2 hy => ?_⟩
      obtain ⟨F2, al, enx⟩ := jy x H2 hy
      have g2 := Al.goE g1.rel al
      have t2 : Turn1 T.K vs _ _ _ _ _ _ _ _ := GoE.turn1 (vs := vs) g1.rel g2
      unfold lcL at h1
      cases eg : g ds[i] ρ1 with
      | none => rw [eg] at h1; cases h1
      | some ρ2 =>
        rw [eg] at h1
        refine ⟨F2, ρ1, ds[i], ρ2, g2.rel, enx, eg, fun σ3 g3 p3 => ?_⟩
        have g3 : Go T.K (prV vs) _ _ _ _ _ _ _ _ := g3
        have t3 := t2.trans (Turn1.ofPr g3 p3)
        refine ⟨by rw [t3.wipe g1.rel.len, wipe_wipe], F2, ρ2, g3.rel, ?_⟩
        simp only at h1
        cases et : tc ρ2 with
        | stuck => rw [et] at h1; cases h1
        | err x ρ3 => rw [et] at h1; cases h1
        | ok bb ρ3 =>
          rw [et] at h1
          intro F4 H4 g4
          have t4 := t3.trans (GoE.turn1 g3.rel g4)
          cases bb with
          | false =>
            rw [if_neg (by decide)]
            simp only at h1
            have hD4 : H4 D0 = some (.lst vacc) := t4.go.keep D0 _ d1 fun q => by
              obtain ⟨_, o, e⟩ := r0.ownIn (g1.ownSub q)
              rw [hD] at e; cases e
            obtain ⟨f4, b4⟩ := Turn1.next g1 t4 hD f1 (by rw [d1]; simp) (Hn := H4) (fun _ _ => rfl) (by rw [hD4]; simp) r0
            exact ⟨F4, _, vacc, acc, rest, b4, f4, hD4, en1.ext t4.go.ext, h1, hxs⟩
          | true =>
            rw [if_pos rfl]
            refine ⟨F4, ρ3, g4.rel, ?_⟩
            simp only at h1
            cases ee : na ρ3 with
            | stuck => rw [ee] at h1; cases h1
            | err x ρ3 => rw [ee] at h1; cases h1
            | ok r ρ4 =>
              rw [ee] at h1
              obtain ⟨fl, d⟩ := r
              intro F5 H5 v g5 vo
              obtain ⟨F6, g6, _, en6⟩ := freeze g5 vo
              have t6 := t4.trans (GoE.turn1 g4.rel g6)
              have hD5 : H5 D0 = some (.lst vacc) := t6.go.keep D0 _ d1 fun q => by
                obtain ⟨_, o, e⟩ := r0.ownIn (g1.ownSub q)
                rw [hD] at e; cases e
              simp only at h1
              cases er : lcL vs g tc na (ds.drop (i + 1)) (wipeE ρ4 vs) with
              | stuck => rw [er] at h1; cases h1
              | err x ρ5 => rw [er] at h1; cases h1
              | ok ys ρ5 =>
                rw [er] at h1
                cases h1
                obtain ⟨f6, b6⟩ := Turn1.next g1 t6 hD f1 (by rw [d1]; simp) (Hn := upd H5 D0 (.lst (vacc ++ [v]))) (fun a q => upd_ne q) (by rw [upd_same]; simp) r0
                refine ⟨vacc, hD5, ?_, F6, _, vacc ++ [v], acc ++ [d], ys, b6, f6, upd_same, (en1.ext t6.go.ext).append (.cons en6 .nil), er, by rw [List.append_assoc]; exact hxs⟩
                rw [lim_eq, en1.length]
                rw [← hxs, List.length_append, List.length_cons] at hx
                omega
theorem lc_read {g : PM} {vs : List Nat} {σ : St} {H : Hp} {Q : VK} (h : rE T W (lcM vs ml g tc na) σ H Q) : tLc (rI T W ml) (rG (T.blk vs) g) (rT (T.blk vs) WF tc) (rE (T.blk vs) WF na) vs σ H Q := by
  obtain ⟨F, ρ, rel, h⟩ := h
  refine ⟨F, ρ, rel, ?_⟩
  unfold lcM bnd at h
  cases e : ml ρ with
  | stuck => rw [e] at h; exact h
  | err x ρ1 => rw [e] at h; exact h
  | ok ds ρ1 =>
    rw [e] at h
    intro F1 H1 J g1 j D0 hD
    simp only at h
    cases e1 : lcL vs g tc na ds (wipeE ρ1 vs) with
    | stuck => rw [e1] at h; exact h.elim
    | err x ρ1 => rw [e1] at h; exact h.elim
    | ok xs ρ' =>
      rw [e1] at h
      simp only at h
      split at h
      case isFalse => exact h.elim
      rename_i hx
      refine lc_turns g1.rel j hD e1 hx fun F' H' vacc g2 f2 d2 en => ?_
      refine h F' H' _ (g1.trans g2) (.own f2 d2 (.lst en) (.inl (g1.dom _ hD)) fun q => ?_)
      obtain ⟨_, o, e⟩ := g1.rel.ownIn (g2.ownSub q)
      rw [hD] at e; cases e
theorem e_lc {g : PM} (c : Cok G T W k N sc fnc X) (hi : PI X tg iter (rI T W ml)) (ok : blkC N sc scope own = true)
    (hb : ∀ X', Cok G (T.blk (own.map (·.2))) WF k N (relS scope sc) (fun x => scope.names.lookup x == some .cell) X' → PG X' tg (rG (T.blk (own.map (·.2))) g) ∧ PTs X' ifs (rT (T.blk (own.map (·.2))) WF tc) ∧ PE X' elt (rE (T.blk (own.map (·.2))) WF na))
    (hs : ∀ x, foldedSetIterable iter X.env x = pure x) : PE X (.ListComp elt [⟨tg, iter, ifs, 0⟩] scope pos) (rE T W (lcM (own.map (·.2)) ml g tc na)) :=
  PE.mono (pe_lc c.calm (by rw [c.hN]; exact c.nd) hi (blkOk_by (by rw [c.hN, c.hs]; exact ok)) (fun s H C cl fp => (hb _ (c.blk scope _ s H C cl fp)).1) (fun s H C cl fp => (hb _ (c.blk scope _ s H C cl fp)).2.1) (fun s H C cl fp => (hb _ (c.blk scope _ s H C cl fp)).2.2) hs) fun _ _ _ => lc_read
end
end PK
set_option maxHeartbeats 1000000
namespace PK
open PySem PySem.Spec PyProof.Rows L2
section
variable {G : G0} {T : XT} {W : WX} {k : Nat} {N : List Str} {sc : Scope} {fnc : Str → Bool} {X : Cx} {pos p tpos : Pos} {tg a b e elt iter kx vx : Expr} {es elts ifs : List Expr} {kk : Nat} {ma mb mc : M Tok} {na nb nc nk : M (Bool × D)} {ms : M (List Tok)} {ml : M (List D)} {tc : M Bool} {m1 m2 : M Out} {scope : Scope} {own : List (Str × Nat)}
/-- the target takes the comprehension's list at once -/
def swB (sc : Scope) (scope : Scope) (y : Str) (l1 l2 : Nat) : Bool := (match sc.kind with | .function => true | _ => false) && (match sc.names.lookup y with | some .local => true | _ => false) && (l1 == l2) && !(scope.names.any fun (n, k) => n == y && (k == .local || k == .cell))
theorem sw_of {value : Expr} {y : Str} {py : Pos} {l : Nat} {env : PySem.Env} (hv : (∃ e g p, value = .ListComp e g scope p) ∨ ∃ k e g p, value = .DictComp k e g scope p) (h : swB env.scope scope y py.line value.pos.line = true) :
    swapsWith value (some (.Name y py)) l env = pure true ∧ env.scope.names.lookup y = some .local := by
  unfold swB at h
  rw [Bool.and_eq_true, Bool.and_eq_true, Bool.and_eq_true] at h
  obtain ⟨⟨⟨h1, h2⟩, h3⟩, h4⟩ := h
  have hk : env.scope.kind = .function := by
    split at h1
    · assumption
    · cases h1
  have hy : env.scope.names.lookup y = some .local := by
    split at h2
    · assumption
    · cases h2
  have ha : (scope.names.any fun (n, k) => n == y && (k == .local || k == .cell)) = false := by simpa using h4
  refine ⟨?_, hy⟩
  have ky : env.kindOf y = some .local := hy
  have hb : env.blockKind = .function := by unfold Env.blockKind; rw [hk]; rfl
  rcases hv with ⟨e, g, p, rfl⟩ | ⟨kx, e, g, p, rfl⟩
  · unfold swapsWith
    simp only [hb, ky, ha, Expr.pos] at h3 ⊢
    rw [h3]
    rfl
  · unfold swapsWith
    simp only [hb, ky, ha, Expr.pos] at h3 ⊢
    rw [h3]
    rfl
theorem s_setLc {i : Nat} {x : Str} {px spos : Pos} {g : PM} (c : Cok G T W k N sc fnc X) (hx : N[i]? = some x) (hsw : swB sc scope x px.line pos.line = true) (hi : PI X tg iter (rI T W ml)) (ok : blkC N sc scope own = true)
    (hb : ∀ X', Cok G (T.blk (own.map (·.2))) WF k N (relS scope sc) (fun x => scope.names.lookup x == some .cell) X' → PG X' tg (rG (T.blk (own.map (·.2))) g) ∧ PTs X' ifs (rT (T.blk (own.map (·.2))) WF tc) ∧ PE X' elt (rE (T.blk (own.map (·.2))) WF na))
    (hs : ∀ x, foldedSetIterable iter X.env x = pure x) : PS X (.Assign [.Name x px] (.ListComp elt [⟨tg, iter, ifs, 0⟩] scope pos) spos) (rS T W (asgM T.pr i (lcM (own.map (·.2)) ml g tc na))) := by
  rw [← c.hs] at hsw
  have q := sw_of (value := .ListComp elt [⟨tg, iter, ifs, 0⟩] scope pos) (l := spos.line) (.inl ⟨_, _, _, rfl⟩) hsw
  exact PS.mono (ps_setLc c.calm (by rw [c.hN]; exact c.nd) (by rw [c.hN]; exact hx) q.2 q.1 hi (blkOk_by (by rw [c.hN, c.hs]; exact ok)) (fun s H C cl fp => (hb _ (c.blk scope _ s H C cl fp)).1) (fun s H C cl fp => (hb _ (c.blk scope _ s H C cl fp)).2.1) (fun s H C cl fp => (hb _ (c.blk scope _ s H C cl fp)).2.2) hs) fun D0 σ H h => lc_read (asg_read h)

/-! ### {k: v for ..} -/
def dcL (vs : List Nat) (g : PM) (tt : M Bool) (tk te : M (Bool × D)) : List (D × D) → List D → M (List (D × D))
  | acc, [] => fun ρ => .ok acc ρ
  | acc, d :: ds => fun ρ => match g d ρ with
    | none => .stuck
    | some ρ1 => match tt ρ1 with
      | .ok true ρ2 => (match tk ρ2 with
        | .ok kd ρ3 => (match te ρ3 with
          | .ok x ρ4 => if isKey kd.2 && decide (acc.length < LIM) then dcL vs g tt tk te (dput acc kd.2 x.2) ds (wipeE ρ4 vs) else .stuck
          | _ => .stuck)
        | _ => .stuck)
      | .ok false ρ2 => dcL vs g tt tk te acc ds (wipeE ρ2 vs)
      | _ => .stuck
def dcM (vs : List Nat) (ml : M (List D)) (g : PM) (tt : M Bool) (tk te : M (Bool × D)) : M (Bool × D) := bnd ml fun ds ρ => match dcL vs g tt tk te [] ds (wipeE ρ vs) with
  | .ok xs ρ' => .ok (true, .dict xs) (backE ρ ρ' vs)
  | _ => .stuck
theorem dc_turns {g : PM} {J : It} {F : Hp} {σ : St} {H : Hp} {ρ ρ' : En} {Q : VK} {ds : List D} {xs : List (D × D)} {vs : List Nat} {D0 : Addr} (rel : Rel T.K F σ H ρ) (j : JOk T.K J F ds) (hD : H D0 = none) (h : dcL vs g tc nk na [] ds (wipeE ρ vs) = .ok xs ρ')
    (hQ : ∀ F' H' vacc, GoE T.K F σ H ρ F' H' (backE ρ ρ' vs) → F' D0 = none → H' D0 = some (.dK vacc) → EncK T.K F' vacc xs → Q (.ref D0) H') :
    ∃ Wi : Nat → Nat → Hp → Prop, (∃ m, Wi 0 m (upd H D0 (.dK []))) ∧ ∀ i m H, Wi i m H → (J.stop i H ∧ Q (.ref D0) H) ∨ (J.go i H ∧ ∃ Nx : Hp → Prop, (∀ H', Nx H' → ∃ m', m' < m ∧ Wi (i + 1) m' H') ∧ ∀ x H', J.yld i H x H' →
      rG (T.blk vs) g x (wipe σ vs) H' fun σ2 H2 => wipe σ2 vs = wipe σ vs ∧ rT (T.blk vs) WF tc σ2 H2 fun b H3 => if b = true then rE (T.blk vs) WF nk σ2 H3 fun y H4 => rE (T.blk vs) WF na σ2 H4 fun z H5 => ∃ kvs kk, y = kV kk ∧ H5 D0 = some (.dK kvs) ∧ kvs.length < sizeLine ∧ Nx (upd H5 D0 (.dK (putK kvs kk z))) else Nx H3) := by
  have r0 := rel.wipe vs
  let P : Nat → Hp → Prop := fun i H' => ∃ F' ρ1 vacc acc, GoE T.K F (wipe σ vs) H (wipeE ρ vs) F' H' ρ1 ∧ F' D0 = none ∧ H' D0 = some (.dK vacc) ∧ EncK T.K F' vacc acc ∧ dcL vs g tc nk na acc (ds.drop i) ρ1 = .ok xs ρ'
  refine ⟨fun i m H' => m = ds.length - i ∧ i ≤ ds.length ∧ P i H', ⟨_, rfl, Nat.zero_le _, ?_⟩, ?_⟩
  · have a := Al.one (o := .dK []) rel.sub hD
    exact ⟨F, wipeE ρ vs, [], [], Al.goE r0 a, none_of_sub rel.sub hD, upd_same, .nil, h⟩
  · intro i m H1 ⟨em, hi, F1, ρ1, vacc, acc, g1, f1, d1, en1, h1⟩
    have noD : ¬ Own (wipe σ vs) ρ1 D0 := fun q => by
      obtain ⟨_, o, e⟩ := r0.ownIn (g1.ownSub q)
      rw [hD] at e; cases e
    by_cases hl : i = ds.length
    · subst hl
      rw [List.drop_length] at h1
      unfold dcL at h1
      cases h1
      exact .inl ⟨j.stop F1 H1 _ g1.ext g1.rel.sub (Nat.le_refl _), hQ F1 H1 vacc (GoE.unwipe rel g1) f1 d1 en1⟩
    · have hlt : i < ds.length := by omega
      obtain ⟨jg, jy⟩ := j.go F1 H1 i ds[i] g1.ext g1.rel.sub (List.getElem?_eq_getElem hlt)
      rw [List.drop_eq_getElem_cons hlt] at h1
      refine .inr ⟨jg, P (i + 1), fun H' hN => ⟨ds.length - (i + 1), by omega, rfl, hlt, hN⟩, fun x H2 hy => ?_⟩
      obtain ⟨F2, al, enx⟩ := jy x H2 hy
      have g2 := Al.goE g1.rel al
      have t2 : Turn1 T.K vs _ _ _ _ _ _ _ _ := GoE.turn1 (vs := vs) g1.rel g2
      unfold dcL at h1
      cases eg : g ds[i] ρ1 with
      | none => rw [eg] at h1; cases h1
      | some ρ2 =>
        rw [eg] at h1
        refine ⟨F2, ρ1, ds[i], ρ2, g2.rel, enx, eg, fun σ3 g3 p3 => ?_⟩
        have g3 : Go T.K (prV vs) _ _ _ _ _ _ _ _ := g3
        have t3 := t2.trans (Turn1.ofPr g3 p3)
        refine ⟨by rw [t3.wipe g1.rel.len, wipe_wipe], F2, ρ2, g3.rel, ?_⟩
        simp only at h1
        cases et : tc ρ2 with
        | stuck => rw [et] at h1; cases h1
        | err x ρ3 => rw [et] at h1; cases h1
        | ok bb ρ3 =>
          rw [et] at h1
          intro F4 H4 g4
          have t4 := t3.trans (GoE.turn1 g3.rel g4)
          cases bb with
          | false =>
            rw [if_neg (by decide)]
            simp only at h1
            have hD4 : H4 D0 = some (.dK vacc) := t4.go.keep D0 _ d1 noD
            obtain ⟨f4, b4⟩ := Turn1.next g1 t4 hD f1 (by rw [d1]; simp) (Hn := H4) (fun _ _ => rfl) (by rw [hD4]; simp) r0
            exact ⟨F4, _, vacc, acc, b4, f4, hD4, en1.ext t4.go.ext, h1⟩
          | true =>
            rw [if_pos rfl]
            refine ⟨F4, ρ3, g4.rel, ?_⟩
            simp only at h1
            cases ek : nk ρ3 with
            | stuck => rw [ek] at h1; cases h1
            | err x ρ3 => rw [ek] at h1; cases h1
            | ok rk ρ4 =>
              rw [ek] at h1
              obtain ⟨flk, dk⟩ := rk
              intro F5 H5 w g5 wo
              obtain ⟨F6, g6, _, en6⟩ := freeze g5 wo
              have t6 := t4.trans (GoE.turn1 g4.rel g6)
              refine ⟨F6, ρ4, g6.rel, ?_⟩
              simp only at h1
              cases ee : na ρ4 with
              | stuck => rw [ee] at h1; cases h1
              | err x ρ3 => rw [ee] at h1; cases h1
              | ok r ρ5 =>
                rw [ee] at h1
                obtain ⟨fl, d⟩ := r
                intro F7 H7 v g7 vo
                obtain ⟨F8, g8, _, en8⟩ := freeze g7 vo
                have t8 := t6.trans (GoE.turn1 g6.rel g8)
                have hD7 : H7 D0 = some (.dK vacc) := t8.go.keep D0 _ d1 noD
                simp only at h1
                split at h1
                case isFalse => cases h1
                rename_i hk
                rw [Bool.and_eq_true, decide_eq_true_eq] at hk
                obtain ⟨kk, hkk⟩ := isKey_D hk.1
                subst hkk
                have en6' := en6.ext g8.ext
                have wk : w = kV kk := by
                  cases kk <;> (cases en6; rfl)
                subst wk
                obtain ⟨f8, b8⟩ := Turn1.next g1 t8 hD f1 (by rw [d1]; simp) (Hn := upd H7 D0 (.dK (putK vacc kk v))) (fun a q => upd_ne q) (by rw [upd_same]; simp) r0
                refine ⟨vacc, kk, rfl, hD7, ?_, F8, _, _, _, b8, f8, upd_same, (en1.ext t8.go.ext).put en6' en8, h1⟩
                rw [lim_eq, en1.length]
                exact hk.2
theorem dc_read {g : PM} {vs : List Nat} {σ : St} {H : Hp} {Q : VK} (h : rE T W (dcM vs ml g tc nk na) σ H Q) : tDc (rI T W ml) (rG (T.blk vs) g) (rT (T.blk vs) WF tc) (rE (T.blk vs) WF nk) (rE (T.blk vs) WF na) vs σ H Q := by
  obtain ⟨F, ρ, rel, h⟩ := h
  refine ⟨F, ρ, rel, ?_⟩
  unfold dcM bnd at h
  cases e : ml ρ with
  | stuck => rw [e] at h; exact h
  | err x ρ1 => rw [e] at h; exact h
  | ok ds ρ1 =>
    rw [e] at h
    intro F1 H1 J g1 j D0 hD
    simp only at h
    cases e1 : dcL vs g tc nk na [] ds (wipeE ρ1 vs) with
    | stuck => rw [e1] at h; exact h.elim
    | err x ρ1 => rw [e1] at h; exact h.elim
    | ok xs ρ' =>
      rw [e1] at h
      simp only at h
      refine dc_turns g1.rel j hD e1 fun F' H' vacc g2 f2 d2 en => ?_
      refine h F' H' _ (g1.trans g2) (.own f2 d2 (.dic en) (.inl (g1.dom _ hD)) fun q => ?_)
      obtain ⟨_, o, e⟩ := g1.rel.ownIn (g2.ownSub q)
      rw [hD] at e; cases e
theorem e_dc {g : PM} (c : Cok G T W k N sc fnc X) (hi : PI X tg iter (rI T W ml)) (ok : blkC N sc scope own = true)
    (hb : ∀ X', Cok G (T.blk (own.map (·.2))) WF k N (relS scope sc) (fun x => scope.names.lookup x == some .cell) X' → PG X' tg (rG (T.blk (own.map (·.2))) g) ∧ PTs X' ifs (rT (T.blk (own.map (·.2))) WF tc) ∧ PE X' kx (rE (T.blk (own.map (·.2))) WF nk) ∧ PE X' vx (rE (T.blk (own.map (·.2))) WF na))
    (hs : ∀ x, foldedSetIterable iter X.env x = pure x) : PE X (.DictComp kx vx [⟨tg, iter, ifs, 0⟩] scope pos) (rE T W (dcM (own.map (·.2)) ml g tc nk na)) :=
  PE.mono (pe_dc c.calm (by rw [c.hN]; exact c.nd) hi (blkOk_by (by rw [c.hN, c.hs]; exact ok)) (fun s H C cl fp => (hb _ (c.blk scope _ s H C cl fp)).1) (fun s H C cl fp => (hb _ (c.blk scope _ s H C cl fp)).2.1) (fun s H C cl fp => (hb _ (c.blk scope _ s H C cl fp)).2.2.1) (fun s H C cl fp => (hb _ (c.blk scope _ s H C cl fp)).2.2.2) hs) fun _ _ _ => dc_read
/-- name = {..} on one line, the name a local -/
theorem ps_setDc {i : Nat} {y : Str} {py : Pos} {spos : Pos} {wi : TI} {g : TG} {tt : TT} {tk te : TE} (hc : X.calm = true) (hN : X.N.Nodup) (hy : X.N[i]? = some y) (hyl : X.env.scope.names.lookup y = some .local)
    (hsw : swapsWith (.DictComp kx vx [⟨tg, iter, ifs, 0⟩] scope pos) (some (.Name y py)) spos.line X.env = pure true) (hi : PI X tg iter wi) (ok : BlkOk X.N X.env.scope scope own)
    (hg : ∀ (s : Shared) (H : Hp) (C : Addr) (cl : List (Str × Addr)) (fp : List Addr), PG (X.blk s H scope (compEnvC scope cl C X.env) fp) tg g) (ht : ∀ (s : Shared) (H : Hp) (C : Addr) (cl : List (Str × Addr)) (fp : List Addr), PTs (X.blk s H scope (compEnvC scope cl C X.env) fp) ifs tt)
    (hk : ∀ (s : Shared) (H : Hp) (C : Addr) (cl : List (Str × Addr)) (fp : List Addr), PE (X.blk s H scope (compEnvC scope cl C X.env) fp) kx tk)
    (he : ∀ (s : Shared) (H : Hp) (C : Addr) (cl : List (Str × Addr)) (fp : List Addr), PE (X.blk s H scope (compEnvC scope cl C X.env) fp) vx te) (hs : ∀ x, foldedSetIterable iter X.env x = pure x) :
    PS X (.Assign [.Name y py] (.DictComp kx vx [⟨tg, iter, ifs, 0⟩] scope pos) spos) (tAsg (tDc wi g tt tk te (own.map (·.2))) (gName i)) := by
  refine ⟨fun pins s σ H D I h => ?_⟩
  rw [exec_Assign_Name_used _ _ _ _ hsw]
  refine wpAny_bind (wpAny_standAt (wpAny_bind ?_))
  show wpAny _ X.A (do let _ ← comprehension (.DictComp kx vx [⟨tg, iter, ifs, 0⟩] scope pos) scope X.env (firstIterPos [⟨tg, iter, ifs, 0⟩] pos) newDict false (eval iter X.env) (some (assign (.Name y py) X.env))) _ _ s
  have h : tDc wi g tt tk te (own.map (·.2)) σ H (fun x H1 => gName i x σ H1 D.nx) := h
  refine wpAny_bind (thn (dc_core (Qf := fun _ s' => SP X pins D .next s') hc hN I hi ok hg ht hk he hs h fun L C s' m H' I' q hn f => ?_) fun _ s' hq => wpAny_pure (wpAny_pure hq))
  show wpAny _ _ (assign (.Name y py) X.env (.ref L)) _ _ _
  refine wpAny_assign_Name (store_ok2 (v := V.ref L) I' hN hy (.inl hyl) rfl (fun s2 I2 ⟨a, sb, ha⟩ => ?_) (.inr hyl))
  obtain ⟨f0, f1, f2, f3, f4, f5⟩ := f
  have haC : C ≠ a := by
    rcases ha with z | z
    · rw [z]; exact f1
    · exact fun e => f4 y a z e.symm
  refine ⟨m, hn.sameBut sb haC, fun h3 sb3 => ?_⟩
  exact ⟨_, H', I2.turned (t' := s2.toks) (fun b o hb e => (sb3.2 b hb).trans e) f0 f1 f3 f4 f5, q⟩
theorem s_setDc {i : Nat} {x : Str} {px spos : Pos} {g : PM} (c : Cok G T W k N sc fnc X) (hx : N[i]? = some x) (hsw : swB sc scope x px.line pos.line = true) (hi : PI X tg iter (rI T W ml)) (ok : blkC N sc scope own = true)
    (hb : ∀ X', Cok G (T.blk (own.map (·.2))) WF k N (relS scope sc) (fun x => scope.names.lookup x == some .cell) X' → PG X' tg (rG (T.blk (own.map (·.2))) g) ∧ PTs X' ifs (rT (T.blk (own.map (·.2))) WF tc) ∧ PE X' kx (rE (T.blk (own.map (·.2))) WF nk) ∧ PE X' vx (rE (T.blk (own.map (·.2))) WF na))
    (hs : ∀ x, foldedSetIterable iter X.env x = pure x) : PS X (.Assign [.Name x px] (.DictComp kx vx [⟨tg, iter, ifs, 0⟩] scope pos) spos) (rS T W (asgM T.pr i (dcM (own.map (·.2)) ml g tc nk na))) := by
  rw [← c.hs] at hsw
  have q := sw_of (value := .DictComp kx vx [⟨tg, iter, ifs, 0⟩] scope pos) (l := spos.line) (.inr ⟨_, _, _, _, rfl⟩) hsw
  exact PS.mono (ps_setDc c.calm (by rw [c.hN]; exact c.nd) (by rw [c.hN]; exact hx) q.2 q.1 hi (blkOk_by (by rw [c.hN, c.hs]; exact ok)) (fun s H C cl fp => (hb _ (c.blk scope _ s H C cl fp)).1) (fun s H C cl fp => (hb _ (c.blk scope _ s H C cl fp)).2.1) (fun s H C cl fp => (hb _ (c.blk scope _ s H C cl fp)).2.2.1) (fun s H C cl fp => (hb _ (c.blk scope _ s H C cl fp)).2.2.2) hs) fun D0 σ H h => dc_read (asg_read h)
end
end PK
set_option maxHeartbeats 1000000
namespace PK
open PySem PySem.Spec PyProof.Rows L2
/-! ### an object of ours, changed -/
theorem mut_own {K : PySem.W.Frag} {F H : Hp} {σ : St} {ρ : En} {i : Nat} {a : Addr} {o' : HO} {d d' : D} (rel : Rel K F σ H ρ) (hi : ρ[i]? = some (some (true, d))) (hs : σ[i]? = some (some (.ref a))) (t : Top K F o' d') :
    GoE K F σ H ρ F (upd H a o') (ρ.set i (some (true, d'))) := by
  obtain ⟨hf, o, ho⟩ := rel.ownIn ⟨i, d, hi, hs⟩
  have g : CallGo F H (fun b => b = a) F (upd H a o') := ⟨Ext.refl F, fun b h h' => absurd h h', fun b u e n => by rw [upd_ne n]; exact e, fun b u e => by
    rw [upd_ne (fun q => by subst q; rw [hf] at e; cases e)]
    exact rel.sub _ _ e, fun b e => by
    by_cases q : b = a
    · subst q; rw [upd_same] at e; cases e
    · rw [upd_ne q] at e; exact e⟩
  exact CallGo.goM rel g hi hs (fun b q => q) fun x e => by
    cases e
    exact .own hf upd_same t
def ownL (ρ : En) (i : Nat) : Option (List D) := match ρ.getD i none with
  | some (true, .list ds) => some ds
  | _ => none
def ownD (ρ : En) (i : Nat) : Option D := match ρ.getD i none with
  | some (true, d) => some d
  | _ => none
theorem ownL_of {ρ : En} {i : Nat} {ds : List D} (h : ownL ρ i = some ds) : ρ[i]? = some (some (true, .list ds)) := by
  unfold ownL at h
  split at h
  · rename_i e; cases h; exact getD_cell e
  · cases h
theorem ownD_of {ρ : En} {i : Nat} {d : D} (h : ownD ρ i = some d) : ρ[i]? = some (some (true, d)) := by
  unfold ownD at h
  split at h
  · rename_i e; cases h; exact getD_cell e
  · cases h
theorem cell_own {K : PySem.W.Frag} {F H : Hp} {v : V} {d : D} (c : CellOk K F H v (true, d)) : ∃ a o, v = .ref a ∧ F a = none ∧ H a = some o ∧ Top K F o d := by
  cases c with
  | own h1 h2 h3 => exact ⟨_, _, rfl, h1, h2, h3⟩

/-! ### a method that changes a list -/
def MetR (K : PySem.W.Frag) (r : V → List V → Hp → VK → Prop) (g : List D → List D → Option (List D × D)) : Prop := ∀ (F H : Hp) (a : Addr) (vs us : List V) (xs ds xs' : List D) (z : D) (Q : VK),
  Ext F H → H a = some (.lst vs) → EncL K F vs xs → EncL K F us ds → g xs ds = some (xs', z) → (∀ vs' w, EncL K F vs' xs' → Enc K F w z → Q w (upd H a (.lst vs'))) → r (.ref a) us H Q
def methM (i : Nat) (ml : M (List D)) (g : List D → List D → Option (List D × D)) : M (Bool × D) := fun ρ => match ownL ρ i with
  | none => .stuck
  | some _ => bnd ml (fun ds ρ1 => match ownL ρ1 i with
    | none => .stuck
    | some xs => match g xs ds with
      | some (xs', z) => .ok (false, z) (ρ1.set i (some (true, .list xs')))
      | none => .stuck) ρ
def appG (xs : List D) : List D → Option (List D × D)
  | [d] => if xs.length < LIM then some (xs ++ [d], .none) else none
  | _ => none
def extG (xs : List D) : List D → Option (List D × D)
  | [.list ys] => if xs.length + ys.length ≤ LIM then some (xs ++ ys, .none) else none
  | _ => none
def insG (xs : List D) : List D → Option (List D × D)
  | [.int i, d] => if xs.length < LIM ∧ 0 ≤ i ∧ i < 2 ^ 63 then some (xs.take i.toNat ++ [d] ++ xs.drop i.toNat, .none) else none
  | _ => none
def popG (xs : List D) : List D → Option (List D × D)
  | [] => (xs[xs.length - 1]?).map fun d => (xs.dropLast, d)
  | _ => none
def intsD : List D → Option (List Int)
  | [] => some []
  | .int i :: r => (intsD r).map fun l => i :: l
  | _ :: _ => none
def remG (xs : List D) : List D → Option (List D × D)
  | [.int k] => (intsD xs).bind fun ns => if k ∈ ns then some ((ns.erase k).map .int, .none) else none
  | _ => none
theorem ints_of : ∀ {xs : List D} {ns : List Int}, intsD xs = some ns → xs = ns.map .int
  | [], ns, h => by cases h; rfl
  | d :: r, ns, h => by
    unfold intsD at h
    split at h
    · rename_i q; cases q
    · rename_i i r' q
      cases q
      cases e : intsD r with
      | none => rw [e] at h; cases h
      | some l => rw [e] at h; cases h; rw [List.map_cons, ints_of e]
    · cases h
theorem encL_intsV {K : PySem.W.Frag} {F : Hp} : ∀ {vs : List V} {ns : List Int}, EncL K F vs (ns.map .int) → vs = ns.map V.int
  | _, [], .nil => rfl
  | _, _ :: ns, .cons h t => by
    cases h
    rw [List.map_cons, encL_intsV t]
theorem encL_of_ints {K : PySem.W.Frag} {F : Hp} (ns : List Int) : EncL K F (ns.map V.int) (ns.map .int) := EncL.map _ _ (fun i => .int i) ns
theorem met_append {K : PySem.W.Frag} : MetR K rAppend appG := by
  intro F H a vs us xs ds xs' z Q s h t u hg k
  unfold appG at hg
  split at hg
  · split at hg
    · rename_i hl
      cases hg
      cases u with
      | cons e r =>
        cases r
        exact ⟨a, vs, _, rfl, rfl, h, by rw [lim_eq, t.length]; exact hl, k _ _ (t.append (.cons e .nil)) .non⟩
    · cases hg
  · cases hg
theorem met_extend {K : PySem.W.Frag} : MetR K rExtend extG := by
  intro F H a vs us xs ds xs' z Q s h t u hg k
  unfold extG at hg
  split at hg
  · split at hg
    · rename_i hl
      cases hg
      cases u with
      | cons e r =>
        cases r
        cases e with
        | lst hb tb => exact ⟨a, _, vs, _, rfl, rfl, h, s _ _ hb, by rw [lim_eq, t.length, tb.length]; exact hl, k _ _ (t.append tb) .non⟩
    · cases hg
  · cases hg
def rIns : V → List V → Hp → VK → Prop := fun x vs H Q => ∃ (l : Addr) (xs : List V) (i : Int) (y : V), x = .ref l ∧ vs = [.int i, y] ∧ H l = some (.lst xs) ∧ xs.length < sizeLine ∧ 0 ≤ i ∧ i < 2 ^ 63 ∧ Q .non (upd H l (.lst (xs.take i.toNat ++ [y] ++ xs.drop i.toNat)))
theorem met_insert {K : PySem.W.Frag} : MetR K rIns insG := by
  intro F H a vs us xs ds xs' z Q s h t u hg k
  unfold insG at hg
  split at hg
  · split at hg
    · rename_i hl
      cases hg
      cases u with
      | cons e r =>
        cases r with
        | cons e2 r =>
          cases r
          cases e
          exact ⟨a, vs, _, _, rfl, rfl, h, by rw [lim_eq, t.length]; exact hl.1, hl.2.1, hl.2.2, k _ _ (((t.take _).append (.cons e2 .nil)).append (t.drop _)) .non⟩
    · cases hg
  · cases hg
theorem EncL.dropLast {K : PySem.W.Frag} {F : Hp} {vs : List V} {ds : List D} (h : EncL K F vs ds) : EncL K F vs.dropLast ds.dropLast := by
  rw [List.dropLast_eq_take, List.dropLast_eq_take, h.length]
  exact h.take _
theorem met_pop {K : PySem.W.Frag} : MetR K rPop popG := by
  intro F H a vs us xs ds xs' z Q s h t u hg k
  unfold popG at hg
  split at hg
  · cases u
    cases e : xs[xs.length - 1]? with
    | none => rw [e] at hg; cases hg
    | some d =>
      rw [e] at hg
      cases hg
      obtain ⟨v, ev, en⟩ := t.get e
      exact ⟨a, vs, v, rfl, rfl, h, by rw [t.length]; exact ev, k _ _ t.dropLast en⟩
  · cases hg
theorem idx_first {k : Int} : ∀ {ns : List Int}, k ∈ ns → ∃ j : Nat, ns[j]? = some k ∧ (∀ m : Nat, m < j → ns[m]? ≠ some k) ∧ ns.erase k = ns.eraseIdx j
  | n :: ns, h => by
    by_cases e : n = k
    · subst e
      exact ⟨0, rfl, fun m hm => absurd hm (Nat.not_lt_zero m), by simp⟩
    · obtain ⟨j, h1, h2, h3⟩ := idx_first (ns := ns) (by simpa [Ne.symm e] using h)
      refine ⟨j + 1, by simpa using h1, fun m hm => ?_, ?_⟩
      · cases m with
        | zero => simp [e]
        | succ m => simpa using h2 m (by omega)
      · rw [List.erase_cons_tail (by simpa using e), h3]; rfl
theorem met_remove {K : PySem.W.Frag} : MetR K rRemI remG := by
  intro F H a vs us xs ds xs' z Q s h t u hg k
  unfold remG at hg
  split at hg
  · cases e : intsD xs with
    | none => rw [e] at hg; cases hg
    | some ns =>
      rw [e, Option.bind_some] at hg
      split at hg
      · rename_i hm
        cases hg
        have e := ints_of e
        subst e
        have ev := encL_intsV t
        subst ev
        cases u with
        | cons e r =>
          cases r
          cases e
          obtain ⟨j, h1, h2, h3⟩ := idx_first hm
          refine ⟨a, ns, _, j, rfl, rfl, h, h1, h2, ?_⟩
          rw [← h3]
          exact k _ _ (encL_of_ints _) .non
      · cases hg
  · cases hg
section
variable {G : G0} {T : XT} {W : WX} {k : Nat} {N : List Str} {sc : Scope} {fnc : Str → Bool} {X : Cx} {pos p tpos : Pos} {tg a b e : Expr} {es : List Expr} {ma mb mc : M Tok} {na nb nc nk : M (Bool × D)} {ms : M (List Tok)} {ml : M (List D)} {tc : M Bool} {m1 m2 : M Out}
theorem vis_loc {x : Str} (h : locB sc x = true) : Vis sc x := by
  unfold locB at h
  unfold Vis
  split at h <;> simp_all
theorem PostE.ofL {F H : Hp} {σ : St} {ρ : En} {kk : List D → M (Bool × D)} {Q : VK} (h : PostE T W F σ H ρ (bnd ml kk ρ) Q) :
    PostL T W F σ H ρ (ml ρ) fun v H1 => ∃ F1 ρ1 t, GoE T.K F σ H ρ F1 H1 ρ1 ∧ EncL T.K F1 v t ∧ PostE T W F1 σ H1 ρ1 (kk t ρ1) Q := PostE.bndL h
theorem meth_read {i : Nat} {g : List D → List D → Option (List D × D)} {r : V → List V → Hp → VK → Prop} {σ : St} {H : Hp} {Q : VK} (m : MetR T.K r g) (h : rE T W (methM i ml g) σ H Q) : tBM T.K "list" r (tVar i) (rL T W ml) σ H Q := by
  obtain ⟨F, ρ, rel, h⟩ := h
  unfold methM at h
  cases e : ownL ρ i with
  | none => rw [e] at h; exact h.elim
  | some ds0 =>
    rw [e] at h
    obtain ⟨v, ev, c⟩ := rel.cell i _ (ownL_of e)
    obtain ⟨a, o, rfl, hf, ha, t⟩ := cell_own c
    cases t with
    | @lst vs _ t =>
      refine ⟨_, ev, .inl ⟨rfl, vs, SqL.of ha⟩, F, ρ, rel, ?_⟩
      have h1 := PostE.ofL h
      refine h1.map fun us H1 ⟨F1, ρ1, ds, g1, en, h2⟩ => ?_
      cases e1 : ownL ρ1 i with
      | none => simp only [e1] at h2; exact h2.elim
      | some xs =>
        simp only [e1] at h2
        cases e2 : g xs ds with
        | none => rw [e2] at h2; exact h2.elim
        | some z =>
          obtain ⟨xs', z⟩ := z
          rw [e2] at h2
          obtain ⟨w, ew, c'⟩ := g1.rel.cell i _ (ownL_of e1)
          rw [ev] at ew
          cases ew
          obtain ⟨a', o', q, hf', ha', t'⟩ := cell_own c'
          cases q
          cases t' with
          | @lst vs' _ t' => exact m F1 H1 a vs' us xs ds xs' z Q g1.rel.sub ha' t' en e2 fun vs2 w t2 ez => h2 _ _ w (mut_own g1.rel (ownL_of e1) ev (.lst t2)) (.shr ez)
theorem e_meth {i : Nat} {x name : Str} {id : String} {apos : Pos} {g : List D → List D → Option (List D × D)} {r : V → List V → Hp → VK → Prop} (c : Cok G T W k N sc fnc X) (m : MetR T.K r g) (slot : Slot "list" name id) (hty : typeOf (.builtin id) = pure (.type "method_descriptor")) (hm : MtM X id r) (hi : N[i]? = some x) (hv : visB sc x = true)
    (ha : PA X (e :: es) (rL T W ml)) (hs : (e :: es).all noStar = true := by rfl) (hline : (apos.endLine == pos.line) = true := by rfl) (hl : (e :: es).length < 30 := by decide) (hd : (x == ("__debug__" : Str)) = false := by decide) (hcd : (x == ("__classdict__" : Str)) = false := by decide)
    (hbase : attributeBase (.Name x p) name X.env (eval (.Name x p) X.env) = eval (.Name x p) X.env) (hfew : ((backTo pos (starEach (e :: es) X.env)).all (fun x => !x.1) && (backToKw pos (keywordEach [] X.env)).all (fun x => x.1.isSome)
      && decide ((e :: es).length + ([] : List Keyword).length + (if ([] : List Keyword).isEmpty then 0 else 1) < 30)) = true) :
    PE X (.Call (.Attribute (.Name x p) name apos) (e :: es) [] pos) (rE T W (methM i ml g)) := by
  rw [List.all_cons, Bool.and_eq_true] at hs
  refine PE.mono (pe_bm PySem.F.plainAttrs_list slot hty hm (pe_var (pos := p) (i := i) (by rw [c.hN]; exact hi) (by rw [c.hs]; exact vis_of hv) hd hcd) ha hbase hfew hline (star_cons hs.1 _ _) (back_any hs.2)) fun σ H Q h => ?_
  rw [c.hK]
  exact meth_read m h
end
end PK
set_option maxHeartbeats 1000000
namespace PK
open PySem PySem.Spec PyProof.Rows L2
def setG : D → D → D → Option D
  | .list xs, .int k, v => (ixN xs.length k).map fun j => .list (xs.set j v)
  | .dict ds, k, v => if isKey k && decide (ds.length < LIM) then some (.dict (dput ds k v)) else none
  | _, _, _ => none
theorem PSet.or {X : Cx} {t t' : TSet} (h : PSet X t) (h' : PSet X t') : PSet X (fun o i v H Q => t o i v H Q ∨ t' o i v H Q) := fun pins s σ H o i v ov iv u Q I ro ri rv q => q.elim (h pins s σ H o i v ov iv u Q I ro ri rv) (h' pins s σ H o i v ov iv u Q I ro ri rv)
def rSet : TSet := fun o i v H Q => rSetL o i v H Q ∨ rSetD o i v H Q
theorem key_V {K : PySem.W.Frag} {F H : Hp} {y : V} {kk : Key} (h : RdV K F H y (keyD kk)) : y = kV kk := by
  cases kk with
  | inl i => exact h.int
  | inr x => exact h.str.1
theorem key_enc {K : PySem.W.Frag} {F H : Hp} {y : V} {kk : Key} (h : RdV K F H y (keyD kk)) : Enc K F (kV kk) (keyD kk) := by
  cases kk with
  | inl i => exact .int i
  | inr x => exact .str x h.str.2
/-- an item stored in an object of ours -/
theorem set_own {K : PySem.W.Frag} {F H : Hp} {σ : St} {ρ : En} {i : Nat} {a : Addr} {d d' kd z : D} {y v : V} {Q : Hp → Prop} (rel : Rel K F σ H ρ) (hi : ownD ρ i = some d) (hs : σ[i]? = some (some (.ref a))) (ry : RdV K F H y kd) (ev : Enc K F v z) (hg : setG d kd z = some d')
    (hq : ∀ H', GoE K F σ H ρ F H' (ρ.set i (some (true, d'))) → Q H') : rSet (.ref a) y v H Q := by
  obtain ⟨w, ew, c⟩ := rel.cell i _ (ownD_of hi)
  rw [hs] at ew
  cases ew
  obtain ⟨a', o, q, hf, ha, t⟩ := cell_own c
  cases q
  unfold setG at hg
  split at hg
  · rename_i xs k
    cases e : ixN xs.length k with
    | none => rw [e] at hg; cases hg
    | some j =>
      rw [e] at hg
      cases hg
      cases t with
      | @lst vs _ t =>
        cases ry.int
        exact .inl ⟨a, vs, k, j, rfl, rfl, ha, by rw [t.length]; exact e, hq _ (mut_own rel (ownD_of hi) hs (.lst (t.set ev j)))⟩
  · rename_i ds kd'
    split at hg
    · rename_i hk
      cases hg
      rw [Bool.and_eq_true, decide_eq_true_eq] at hk
      obtain ⟨kk, rfl⟩ := isKey_D hk.1
      cases t with
      | @dic kvs _ t =>
        rw [key_V ry]
        exact .inr ⟨a, _, rfl, DPut.k ha (by rw [lim_eq, t.length]; exact hk.2), hq _ (mut_own rel (ownD_of hi) hs (.dic (t.put (key_enc ry) ev)))⟩
    · cases hg
  · cases hg
section
variable {G : G0} {T : XT} {W : WX} {k : Nat} {N : List Str} {sc : Scope} {fnc : Str → Bool} {X : Cx} {pos p tpos : Pos} {tg a b e ix : Expr} {es : List Expr} {ma mb mc : M Tok} {na nb nc nk : M (Bool × D)} {ms : M (List Tok)} {ml : M (List D)} {tc : M Bool} {m1 m2 : M Out}
/-- .. within a statement -/
theorem PostS.ofO {D0 : Ends} {F H : Hp} {σ : St} {ρ : En} {kk : Tok → M Out} (h : PostS T W D0 F σ H ρ (bnd ma kk ρ)) :
    PostO T W F σ H ρ (ma ρ) fun v H1 => ∃ F1 ρ1 t, GoE T.K F σ H ρ F1 H1 ρ1 ∧ TokOk T.K F1 σ ρ1 v t ∧ PostS T W D0 F σ H ρ (kk t ρ1) := by
  unfold bnd at h
  cases e : ma ρ with
  | ok t ρ1 => rw [e] at h; exact fun F1 H1 v g x => ⟨F1, ρ1, t, g, x, h⟩
  | err x ρ1 => rw [e] at h; exact fun F1 H1 c dx g ex => h F1 σ H1 c dx g.go ex
  | stuck => rw [e] at h; exact h
theorem PostE.map {F H : Hp} {σ : St} {ρ : En} {r : Res (Bool × D)} {Q Q' : VK} (h : PostE T W F σ H ρ r Q) (k : ∀ v H, Q v H → Q' v H) : PostE T W F σ H ρ r Q' := by
  cases r with
  | ok a ρ1 => exact fun F' H' v g x => k _ _ (h F' H' v g x)
  | err x ρ1 => exact h
  | stuck => exact h
theorem PostO.map {F H : Hp} {σ : St} {ρ : En} {r : Res Tok} {Q Q' : VK} (h : PostO T W F σ H ρ r Q) (k : ∀ v H, Q v H → Q' v H) : PostO T W F σ H ρ r Q' := by
  cases r with
  | ok a ρ1 => exact fun F' H' v g x => k _ _ (h F' H' v g x)
  | err x ρ1 => exact h
  | stuck => exact h
theorem own_ref {K : PySem.W.Frag} {F H : Hp} {σ : St} {ρ : En} {i : Nat} {d : D} (rel : Rel K F σ H ρ) (h : ownD ρ i = some d) : ∃ a, σ[i]? = some (some (.ref a)) := by
  obtain ⟨v, ev, c⟩ := rel.cell i _ (ownD_of h)
  obtain ⟨a, _, rfl, _⟩ := cell_own c
  exact ⟨a, ev⟩
/-- x[k] = e -/
def setM (i : Nat) (mb : M Tok) (na : M (Bool × D)) : M Out := bnd na fun r ρ1 => match ownD ρ1 i with
  | none => .stuck
  | some _ => bnd mb (fun t ρ2 => match (ownD ρ2 i).bind fun d => (rsv ρ2 t).bind fun kd => setG d kd r.2 with
    | some d' => .ok .nxt (ρ2.set i (some (true, d')))
    | none => .stuck) ρ1
theorem set_read {i : Nat} {D0 : Ends} {σ : St} {H : Hp} (h : rS T W (setM i mb na) D0 σ H) : tAsg (rE T W na) (gSub (tVar i) (rO T W mb) rSet) D0 σ H := by
  obtain ⟨F, ρ, rel, h⟩ := h
  refine ⟨F, ρ, rel, ?_⟩
  have h1 := PostS.ofE h
  refine h1.map fun v H1 ⟨F1, ρ1, fl, d, g1, vo, h2⟩ => ?_
  obtain ⟨F2, g2, _, en⟩ := freeze g1 vo
  cases e : ownD ρ1 i with
  | none => simp only [e] at h2; exact h2.elim
  | some d0 =>
    simp only [e] at h2
    obtain ⟨a, ea⟩ := own_ref g2.rel e
    have h2 := PostS.later h2 (g2.go (pr := T.pr))
    refine ⟨_, ea, F2, ρ1, g2.rel, (PostS.ofO h2).map fun y H2 ⟨F3, ρ2, t, g3, x3, h3⟩ => ?_⟩
    have h3 := PostS.later h3 (g3.go (pr := T.pr))
    cases e2 : ownD ρ2 i with
    | none => simp only [e2] at h3; exact h3.elim
    | some d1 =>
      cases e3 : rsv ρ2 t with
      | none => simp only [e2, e3] at h3; exact h3.elim
      | some kd =>
        cases e4 : setG d1 kd d with
        | none => simp only [e2, e3, e4, Option.bind_some] at h3; exact h3.elim
        | some d' =>
          simp only [e2, e3, e4, Option.bind_some] at h3
          exact set_own g3.rel e2 ea (x3.read g3.rel e3) (en.ext g3.ext) e4 fun H3 g4 => h3 F3 σ H3 g4.go
theorem s_set {i : Nat} {x : Str} (c : Cok G T W k N sc fnc X) (hi : N[i]? = some x) (hv : visB sc x = true) (he : PE X e (rE T W na)) (hb : PE X ix (rO T W mb)) (ha : ∀ v, assign (.Subscript (.Name x p) ix tpos) X.env v = (do
      let ov ← holding [v] (eval (.Name x p) X.env)
      let iv ← holding [v, ov] (eval ix X.env)
      standAt tpos
      holding [v, ov, iv] (setItem ov iv v)
      release [v, ov, iv] [])) (hc : noComp e = true := by rfl) (hw : noSwap e = true := by rfl) (hd : (x == ("__debug__" : Str)) = false := by decide) (hcd : (x == ("__classdict__" : Str)) = false := by decide) :
    PS X (.Assign [.Subscript (.Name x p) ix tpos] e pos) (rS T W (setM i mb na)) := by
  have hu := c.u64
  exact PS.mono (ps_asg he (pg_sub (pe_var (pos := p) (i := i) (by rw [c.hN]; exact hi) (by rw [c.hs]; exact vis_of hv) hd hcd) hb (PSet.or set_list (set_dict (by omega))) ha) (swaps_of hc (some (.Subscript (.Name x p) ix tpos)) pos.line X.env) (swap_of hw _) (by rw [each_cons (e := .Subscript (.Name x p) ix tpos) rfl]; rfl)) fun _ _ _ => set_read

/-! ### op= -/
/-- on whole numbers -/
def iopG (f : Int → Int → Option Int) : D → D → Option D
  | .int i, .int j => (f i j).map .int
  | _, _ => none
theorem iopG_of {f : Int → Int → Option Int} {x : Int} {d z : D} (h : iopG f (.int x) d = some z) : ∃ j w, d = .int j ∧ f x j = some w ∧ z = .int w := by
  cases d with
  | int j =>
    have h : (f x j).map PyData.int = some z := h
    cases e : f x j with
    | none => rw [e] at h; cases h
    | some w => rw [e] at h; cases h; exact ⟨j, w, rfl, e, rfl⟩
  | _ => exact nomatch h
def IpR (X : Cx) (op : Operator) (f : Int → Int → Option Int) : Prop := ∃ t : TIp, PIp X op t ∧ ∀ i j z H Q, f i j = some z → Q (.int z) H → t (.int i) (.int j) H Q
def iAdd : Int → Int → Option Int := fun i j => some (i + j)
def iSub : Int → Int → Option Int := fun i j => some (i - j)
def iMul : Int → Int → Option Int := fun i j => if i.natAbs < 2 ^ 64 ∨ j.natAbs < 2 ^ 64 then some (i * j) else none
def iDiv : Int → Int → Option Int := fun i j => if 0 < j ∧ j < 1073741824 then some (i / j) else none
theorem ipr_add : IpR X .Add iAdd := ⟨_, ip_add, fun i j z H Q h q => by cases h; exact ⟨i, j, rfl, rfl, q⟩⟩
theorem ipr_sub : IpR X .Sub iSub := ⟨_, ip_sub, fun i j z H Q h q => by cases h; exact ⟨i, j, rfl, rfl, q⟩⟩
theorem ipr_div : IpR X .FloorDiv iDiv := ⟨_, iop_fdiv, fun i j z H Q h q => by
  unfold iDiv at h
  split at h
  · rename_i hc
    cases h
    exact ⟨i, j, rfl, rfl, hc, q⟩
  · cases h⟩
/-- x op= e -/
def augM (pr : Nat → Bool) (i : Nat) (f : Int → Int → Option Int) (na : M (Bool × D)) : M Out := fun ρ => if pr i then .stuck else match ρ.getD i none with
  | some (_, .int x) => bnd na (fun r ρ1 => match iopG f (.int x) r.2 with
    | some z => .ok .nxt (ρ1.set i (some (false, z)))
    | none => .stuck) ρ
  | _ => .stuck
theorem aug_read {i : Nat} {f : Int → Int → Option Int} {t : TIp} {D0 : Ends} {σ : St} {H : Hp} (hf : ∀ i j z H Q, f i j = some z → Q (.int z) H → t (.int i) (.int j) H Q) (h : rS T W (augM T.pr i f na) D0 σ H) : tAug i (rE T W na) t D0 σ H := by
  obtain ⟨F, ρ, rel, h⟩ := h
  unfold augM at h
  cases hp : T.pr i with
  | true => rw [hp, if_pos rfl] at h; exact h.elim
  | false =>
    rw [hp, if_neg (by decide)] at h
    split at h
    · rename_i fl x ex
      obtain ⟨v, ev, c⟩ := rel.cell i _ (getD_cell ex)
      have e0 : v = .int x := by
        cases c with
        | shr c => cases c; rfl
        | own _ _ c => cases c
      subst e0
      refine ⟨_, ev, F, ρ, rel, (PostS.ofE h).map fun y H1 ⟨F1, ρ1, fl, d, g1, vo, h2⟩ => ?_⟩
      cases hz : iopG f (.int x) d with
      | none => simp only [hz] at h2; exact h2.elim
      | some z =>
        simp only [hz] at h2
        obtain ⟨j, w, rfl, ew, rfl⟩ := iopG_of hz
        cases vo with
        | shr en =>
          cases en
          exact hf _ _ _ _ _ ew (h2 F1 _ H1 (store_go rel hp g1 (.shr (.int w))))
        | own _ _ c => cases c
    · exact h.elim
theorem s_aug {i : Nat} {x : Str} {op : Operator} {f : Int → Int → Option Int} {pos' : Pos} (c : Cok G T W k N sc fnc X) (ip : IpR X op f) (hi : N[i]? = some x) (hx : stoB sc fnc x = true) (he : PE X e (rE T W na)) : PS X (.AugAssign (.Name x pos') op e pos) (rS T W (augM T.pr i f na)) := by
  obtain ⟨t, hp, hf⟩ := ip
  exact PS.mono (ps_aug (i := i) (by rw [c.hN]; exact c.nd) (by rw [c.hN]; exact hi) (by rw [c.hs]; exact sto_loc hx) he hp (by rw [c.hs, c.hfn]; exact sto_fn hx)) fun _ _ _ => aug_read hf
/-- x[k] op= e -/
def augS (i : Nat) (f : Int → Int → Option Int) (mb : M Tok) (na : M (Bool × D)) : M Out := fun ρ => match ownD ρ i with
  | none => .stuck
  | some _ => bnd mb (fun t ρ1 => match (ownD ρ1 i).bind fun d => (rsv ρ1 t).bind fun kd => idxG d kd with
    | some (_, .int x) => bnd na (fun r ρ2 => match (ownD ρ2 i).bind fun d => (rsv ρ2 t).bind fun kd => (iopG f (.int x) r.2).bind fun z => setG d kd z with
      | some d' => .ok .nxt (ρ2.set i (some (true, d')))
      | none => .stuck) ρ1
    | _ => .stuck) ρ
def rGetI : V → V → Hp → VK → Prop := fun x y H Q => (∃ p xs i v, x = .ref p ∧ y = .int i ∧ H p = some (.lst xs) ∧ atI xs i = some v ∧ Q v H) ∨ ∃ a v, x = .ref a ∧ DGet H a y (some v) ∧ Q v H
theorem get_own (hu : X.A.units + 1 < cLine) : PGet X rGetI := by
  intro pins s σ H x y v u Q I rx ry h
  rcases h with ⟨p, xs, i, z, rfl, rfl, hq, he, q⟩ | ⟨a, z, rfl, g, q⟩
  · cases rx
    obtain ⟨t, rfl⟩ := ry
    obtain ⟨its, r, pl, hz⟩ := I.list (SqL.of hq)
    obtain ⟨j, h1, h2, h3, h4, h5⟩ := atI_get he
    obtain ⟨w, ew, rw'⟩ := r.get h2
    have hl := r.length
    have hn := line63
    have fin : EP X pins σ Q w s := ⟨z, H, I, rw', q⟩
    by_cases h0 : 0 ≤ i
    · have hj : i.toNat = j := by
        rw [seqIndex_of h0 h5] at h1
        exact Option.some.inj h1
      exact wpAny_getItem_list pl.isList h0 (by omega) (by rw [hj]; simpa using ew) fin
    · have hj : (i + (its.toArray.size : Int)).toNat = j := by
        rw [seqIndex_neg (by omega) h4] at h1
        rw [List.size_toArray, ← hl]
        exact Option.some.inj h1
      exact wpAny_getItem_list_neg pl.isList (by omega) (by rw [List.size_toArray] <;> omega) (by omega) (by rw [hj]; simpa using ew) fin
  · obtain rfl : v = Value.ref a := rx
    exact d_getItem hu I g ry fun w' s3 I3 rw' => ⟨z, H, I3, rw', q⟩
theorem idxG_dict {ds : List (D × D)} {kd : D} : idxG (.dict ds) kd = if isKey kd && isDic ds then (dlook ds kd).map fun e => (false, e) else none := by
  cases kd <;> rfl
theorem idx_own {K : PySem.W.Frag} {F H : Hp} {σ : St} {ρ : En} {i : Nat} {a : Addr} {d kd z : D} {y : V} {Q : VK} {fl : Bool} (rel : Rel K F σ H ρ) (hi : ownD ρ i = some d) (hs : σ[i]? = some (some (.ref a))) (ry : RdV K F H y kd) (hg : idxG d kd = some (fl, z))
    (hq : ∀ w, Enc K F w z → Q w H) : rGetI (.ref a) y H Q := by
  obtain ⟨w, ew, c⟩ := rel.cell i _ (ownD_of hi)
  rw [hs] at ew
  cases ew
  obtain ⟨a', o, q, hf, ha, t⟩ := cell_own c
  cases q
  cases t with
  | @lst vs xs t =>
    unfold idxG at hg
    split at hg
    · rename_i xs' k q
      cases q
      cases e : atI xs k with
      | none => rw [e] at hg; cases hg
      | some d1 =>
        rw [e] at hg
        cases hg
        cases ry.int
        obtain ⟨v, e2, en⟩ := encL_at t e
        exact .inl ⟨a, vs, k, v, rfl, rfl, ha, e2, hq _ en⟩
    all_goals (first | (rename_i q; cases q; done) | (cases hg; done) | skip)
  | @dic kvs ds t =>
    rw [idxG_dict] at hg
    · split at hg
      · rename_i hk
        rw [Bool.and_eq_true] at hk
        obtain ⟨kk, rfl⟩ := isKey_D hk.1
        cases e : dlook ds (keyD kk) with
        | none => rw [e] at hg; cases hg
        | some d1 =>
          rw [e] at hg
          cases hg
          have lk := t.look kk
          rw [e] at lk
          cases e2 : valV kvs kk with
          | none => rw [e2] at lk; cases lk
          | some v =>
            rw [e2] at lk
            cases lk with
            | some en =>
              rw [key_V ry]
              exact .inr ⟨a, v, rfl, by have := DGet.k (k := kk) ha; rw [e2] at this; exact this, hq _ en⟩
      · cases hg
theorem augS_read {i : Nat} {f : Int → Int → Option Int} {t : TIp} {D0 : Ends} {σ : St} {H : Hp} (hf : ∀ i j z H Q, f i j = some z → Q (.int z) H → t (.int i) (.int j) H Q) (h : rS T W (augS i f mb na) D0 σ H) : tAugS (tVar i) (rO T W mb) (rE T W na) rGetI t rSet D0 σ H := by
  obtain ⟨F, ρ, rel, h⟩ := h
  unfold augS at h
  cases e0 : ownD ρ i with
  | none => simp only [e0] at h; exact h.elim
  | some d0 =>
    simp only [e0] at h
    obtain ⟨a, ea⟩ := own_ref rel e0
    refine ⟨_, ea, F, ρ, rel, (PostS.ofO h).map fun y H1 ⟨F1, ρ1, tk, g1, x1, h1⟩ => ?_⟩
    have h1 := PostS.later h1 (g1.go (pr := T.pr))
    cases e1 : ownD ρ1 i with
    | none => simp only [e1] at h1; exact h1.elim
    | some d1 =>
      cases e2 : rsv ρ1 tk with
      | none => simp only [e1, e2] at h1; exact h1.elim
      | some kd =>
        cases e3 : idxG d1 kd with
        | none => simp only [e1, e2, e3, Option.bind_some] at h1; exact h1.elim
        | some r =>
          obtain ⟨fl, old⟩ := r
          simp only [e1, e2, e3, Option.bind_some] at h1
          refine idx_own g1.rel e1 ea (x1.read g1.rel e2) e3 fun w ew => ?_
          cases old with
          | int x =>
            cases ew
            simp only at h1
            refine ⟨F1, ρ1, g1.rel, (PostS.ofE h1).map fun u H2 ⟨F2, ρ2, fl2, d2, g2, vo, hx⟩ => ?_⟩
            have h2 := PostS.later hx (g2.go (pr := T.pr))
            clear hx
            cases e4 : ownD ρ2 i with
            | none => simp only [e4] at h2; exact h2.elim
            | some d4 =>
              cases e5 : rsv ρ2 tk with
              | none => simp only [e4, e5] at h2; exact h2.elim
              | some kd2 =>
                cases e6 : iopG f (.int x) d2 with
                | none => simp only [e4, e5, e6, Option.bind_some] at h2; exact h2.elim
                | some z =>
                  cases e7 : setG d4 kd2 z with
                  | none => simp only [e4, e5, e6, e7, Option.bind_some] at h2; exact h2.elim
                  | some d' =>
                    simp only [e4, e5, e6, e7, Option.bind_some] at h2
                    obtain ⟨j, w, rfl, ew, rfl⟩ := iopG_of e6
                    cases vo with
                    | shr en =>
                      cases en
                      refine hf _ _ _ _ _ ew ?_
                      exact set_own g2.rel e4 ea ((x1.go g2).read g2.rel e5) (.int w) e7 fun H3 g4 => h2 F2 σ H3 g4.go
                    | own _ _ c => cases c
          | _ => exact h1.elim
theorem s_augS {i : Nat} {x : Str} {op : Operator} {f : Int → Int → Option Int} (c : Cok G T W k N sc fnc X) (ip : IpR X op f) (hi : N[i]? = some x) (hv : visB sc x = true) (hb : PE X ix (rO T W mb)) (he : PE X e (rE T W na)) (ha : ∀ ov iv new, augStore ix ov iv new = (do holding [new, ov, iv] (setItem ov iv new); release [new, ov, iv] []; pure .next)) (hd : (x == ("__debug__" : Str)) = false := by decide) (hcd : (x == ("__classdict__" : Str)) = false := by decide) :
    PS X (.AugAssign (.Subscript (.Name x p) ix tpos) op e pos) (rS T W (augS i f mb na)) := by
  obtain ⟨t, hp, hf⟩ := ip
  have hu := c.u64
  exact PS.mono (ps_augS (pe_var (pos := p) (i := i) (by rw [c.hN]; exact hi) (by rw [c.hs]; exact vis_of hv) hd hcd) hb (get_own (by omega)) he hp (PSet.or set_list (set_dict (by omega))) ha) fun _ _ _ => augS_read hf

/-! ### x, y = a, b -/
theorem ValOk.later {K : PySem.W.Frag} {F F1 F2 H H1 H2 : Hp} {σ : St} {ρ ρ1 ρ2 : En} {fl : Bool} {v : V} {d : D} (g1 : GoE K F σ H ρ F1 H1 ρ1) (x : ValOk K σ H ρ F1 H1 σ ρ1 fl v d) (g2 : GoE K F1 σ H1 ρ1 F2 H2 ρ2) : ValOk K σ H ρ F2 H2 σ ρ2 fl v d := by
  cases x with
  | shr e => exact .shr (e.ext g2.ext)
  | @own a o _ h1 h2 h3 h4 h5 =>
    refine .own ?_ (g2.keep a o h2 h5) (h3.ext g2.ext) h4 fun q => h5 (g2.ownSub q)
    cases z : F2 a with
    | none => rfl
    | some o' =>
      rcases g2.new a h1 (by rw [z]; simp) with y | y
      · rw [h2] at y; cases y
      · exact absurd y h5
/-- a value of ours, stored; the other one stays -/
theorem ValOk.store {K : PySem.W.Frag} {F1 H H1 : Hp} {σ : St} {ρ ρ1 : En} {i : Nat} {fl fl' : Bool} {v w : V} {d d' : D} (rel : Rel K F1 σ H1 ρ1) (x : ValOk K σ H ρ F1 H1 σ ρ1 fl v d) (y : ValOk K σ H ρ F1 H1 σ ρ1 fl' w d') (ne : v ≠ w ∨ fl = false ∨ fl' = false) :
    ValOk K σ H ρ F1 H1 (σ.set i (some v)) (ρ1.set i (some (fl, d))) fl' w d' := by
  cases y with
  | shr e => exact .shr e
  | @own b o _ h1 h2 h3 h4 h5 =>
    refine .own h1 h2 h3 h4 fun ⟨j, e, q, s⟩ => ?_
    rcases set_get q with ⟨rfl, e2⟩ | ⟨nj, q⟩
    · cases e2
      rw [set_len_lt rel.len q v] at s
      cases s
      rcases ne with n | n | n
      · exact n rfl
      · cases n
      · cases n
    · rw [List.getElem?_set_ne (Ne.symm nj)] at s
      exact h5 ⟨j, e, q, s⟩
end
end PK
set_option maxHeartbeats 1000000
namespace PK
open PySem PySem.Spec PyProof.Rows L2
theorem store_go2 {K : PySem.W.Frag} {pr : Nat → Bool} {F F1 H H1 : Hp} {σ σ1 : St} {ρ ρ1 : En} {i : Nat} {v : V} {fl : Bool} {d : D} (hp : pr i = false) (g : Go K pr F σ H ρ F1 σ1 H1 ρ1) (x : ValOk K σ H ρ F1 H1 σ1 ρ1 fl v d) :
    Go K pr F σ H ρ F1 (σ1.set i (some v)) H1 (ρ1.set i (some (fl, d))) := by
  have cell : ∀ (j : Nat) (c : Bool × D), (ρ1.set i (some (fl, d)))[j]? = some (some c) → ∃ w, (σ1.set i (some v))[j]? = some (some w) ∧ CellOk K F1 H1 w c := fun j c e => by
    have e0 := e
    rcases set_get e with ⟨rfl, e2⟩ | ⟨ne, e⟩
    · cases e2
      refine ⟨v, set_len_lt g.rel.len e0 v, ?_⟩
      cases x with
      | shr h => exact .shr h
      | own h1 h2 h3 _ _ => exact .own h1 h2 h3
    · rw [List.getElem?_set_ne (Ne.symm ne)]
      exact g.rel.cell j c e
  have fresh : ∀ (a : Addr) (d1 : D), (ρ1.set i (some (fl, d)))[i]? = some (some (true, d1)) → (σ1.set i (some v))[i]? = some (some (.ref a)) → (H a = none ∨ Own σ ρ a) ∧ ¬ Own σ1 ρ1 a := fun a d1 e s => by
    rcases set_get e with ⟨_, e2⟩ | ⟨ne, _⟩
    · cases e2
      rw [set_len_lt g.rel.len e v] at s
      cases s
      cases x with
      | own _ _ _ h4 h5 => exact ⟨h4, h5⟩
    · exact absurd rfl ne
  refine ⟨⟨g.rel.sub, by rw [List.length_set, List.length_set]; exact g.rel.len, cell, fun j l a d1 d2 q1 q2 s1 s2 => ?_⟩, g.ext, g.new, g.keep, g.dom, fun a ⟨j, d1, q, s⟩ => ?_, fun j hj => (List.getElem?_set_ne (fun z => by subst z; rw [hp] at hj; cases hj)).trans (g.prot j hj)⟩
  · by_cases e1 : j = i
    · by_cases e2 : l = i
      · rw [e1, e2]
      · subst e1
        obtain ⟨_, n5⟩ := fresh a d1 q1 s1
        rcases set_get q2 with ⟨z, _⟩ | ⟨_, q2⟩
        · exact absurd z e2
        · rw [List.getElem?_set_ne (Ne.symm e2)] at s2
          exact absurd ⟨l, d2, q2, s2⟩ n5
    · rcases set_get q1 with ⟨z, _⟩ | ⟨_, p1⟩
      · exact absurd z e1
      · rw [List.getElem?_set_ne (Ne.symm e1)] at s1
        by_cases e2 : l = i
        · subst e2
          obtain ⟨_, n5⟩ := fresh a d2 q2 s2
          exact absurd ⟨j, d1, p1, s1⟩ n5
        · rcases set_get q2 with ⟨z, _⟩ | ⟨_, p2⟩
          · exact absurd z e2
          · rw [List.getElem?_set_ne (Ne.symm e2)] at s2
            exact g.rel.sep j l a d1 d2 p1 p2 s1 s2
  · by_cases e1 : j = i
    · subst e1
      exact (fresh a d1 q s).1.symm
    · rcases set_get q with ⟨z, _⟩ | ⟨_, q⟩
      · exact absurd z e1
      · rw [List.getElem?_set_ne (Ne.symm e1)] at s
        exact g.own a ⟨j, d1, q, s⟩
/-- a value of ours, stored; the other one stays -/
theorem ValOk.store2 {K : PySem.W.Frag} {F1 H H1 : Hp} {σ σ1 : St} {ρ ρ1 : En} {i : Nat} {fl fl' : Bool} {v w : V} {d d' : D} (rel : Rel K F1 σ1 H1 ρ1) (y : ValOk K σ H ρ F1 H1 σ1 ρ1 fl' w d') (ne : v ≠ w ∨ fl = false ∨ fl' = false) :
    ValOk K σ H ρ F1 H1 (σ1.set i (some v)) (ρ1.set i (some (fl, d))) fl' w d' := by
  cases y with
  | shr e => exact .shr e
  | @own b o _ h1 h2 h3 h4 h5 =>
    refine .own h1 h2 h3 h4 fun ⟨j, e, q, s⟩ => ?_
    rcases set_get q with ⟨rfl, e2⟩ | ⟨nj, q⟩
    · cases e2
      rw [set_len_lt rel.len q v] at s
      cases s
      rcases ne with n | n | n
      · exact n rfl
      · cases n
      · cases n
    · rw [List.getElem?_set_ne (Ne.symm nj)] at s
      exact h5 ⟨j, e, q, s⟩
theorem ValOk.base {K : PySem.W.Frag} {F F1 F2 H H1 H2 : Hp} {σ : St} {ρ ρ1 ρ2 : En} {fl : Bool} {v : V} {d : D} (g1 : GoE K F σ H ρ F1 H1 ρ1) (x : ValOk K σ H1 ρ1 F2 H2 σ ρ2 fl v d) : ValOk K σ H ρ F2 H2 σ ρ2 fl v d := by
  cases x with
  | shr e => exact .shr e
  | own h1 h2 h3 h4 h5 => exact .own h1 h2 h3 (h4.elim (fun q => .inl (g1.dom _ q)) fun q => .inr (g1.ownSub q)) h5
theorem ValOk.apart {K : PySem.W.Frag} {F1 F2 H H1 H2 : Hp} {σ : St} {ρ ρ1 ρ2 : En} {fl fl' : Bool} {v w : V} {d d' : D} (x : ValOk K σ H ρ F1 H1 σ ρ1 fl v d) (y : ValOk K σ H1 ρ1 F2 H2 σ ρ2 fl' w d') : v ≠ w ∨ fl = false ∨ fl' = false := by
  cases x with
  | shr _ => exact .inr (.inl rfl)
  | own h1 h2 h3 h4 h5 =>
    cases y with
    | shr _ => exact .inr (.inr rfl)
    | own k1 k2 k3 k4 k5 =>
      refine .inl fun e => ?_
      cases e
      rcases k4 with q | q
      · rw [h2] at q; cases q
      · exact h5 q
section
variable {G : G0} {T : XT} {W : WX} {k : Nat} {N : List Str} {sc : Scope} {fnc : Str → Bool} {X : Cx} {pos p tpos : Pos} {tg a b e ix e3 : Expr} {es : List Expr} {ma mb mc : M Tok} {na nb nc nk : M (Bool × D)} {ms : M (List Tok)} {ml : M (List D)} {tc : M Bool} {m1 m2 : M Out}
def parM (pr : Nat → Bool) (i j : Nat) (na nb : M (Bool × D)) : M Out := if pr i || pr j then fun _ => .stuck else bnd na fun r => bnd nb fun s ρ => .ok .nxt ((ρ.set i (some r)).set j (some s))
theorem PostS.ofE2 {D0 : Ends} {F F1 H H1 : Hp} {σ : St} {ρ ρ1 : En} {kk : Bool × D → M Out} (g : GoE T.K F σ H ρ F1 H1 ρ1) (h : PostS T W D0 F σ H ρ (bnd na kk ρ1)) :
    PostE T W F1 σ H1 ρ1 (na ρ1) fun v H2 => ∃ F2 ρ2 fl d, GoE T.K F1 σ H1 ρ1 F2 H2 ρ2 ∧ ValOk T.K σ H1 ρ1 F2 H2 σ ρ2 fl v d ∧ PostS T W D0 F σ H ρ (kk (fl, d) ρ2) := by
  unfold bnd at h
  cases e : na ρ1 with
  | ok r ρ2 =>
    rw [e] at h
    obtain ⟨fl, d⟩ := r
    exact fun F2 H2 v g2 x => ⟨F2, ρ2, fl, d, g2, x, h⟩
  | err x ρ2 => rw [e] at h; exact fun F2 H2 c dx g2 ex => h F2 σ H2 c dx (g.trans g2).go ex
  | stuck => rw [e] at h; exact h
theorem par_read {i j : Nat} {D0 : Ends} {σ : St} {H : Hp} (h : rS T W (parM T.pr i j na nb) D0 σ H) : tPar i j (tCons (rE T W na) (tCons (rE T W nb) tNil)) D0 σ H := by
  obtain ⟨F, ρ, rel, h⟩ := h
  refine ⟨F, ρ, rel, ?_⟩
  unfold parM at h
  cases hp : T.pr i with
  | true => rw [hp] at h; exact h.elim
  | false =>
    cases hq : T.pr j with
    | true => rw [hp, hq] at h; exact h.elim
    | false =>
      rw [hp, hq] at h
      refine (PostS.ofE h).map fun v H1 ⟨F1, ρ1, fl, d, g1, x1, h1⟩ => ⟨F1, ρ1, g1.rel, ?_⟩
      refine (PostS.ofE2 g1 h1).map fun w H2 ⟨F2, ρ2, fl2, d2, g2, x2, h2⟩ => ⟨v, w, rfl, ?_⟩
      have g12 := (g1.trans g2).go (pr := T.pr)
      have s1 := store_go2 hp g12 (x1.later g1 g2)
      exact h2 _ _ _ (store_go2 hq s1 ((x2.base g1).store2 (d := d) g12.rel (x1.apart x2)))
def parB (sc : Scope) (x : Str) : Bool := match sc.names.lookup x with
  | some .local => true
  | _ => false
theorem par_loc {sc : Scope} {x : Str} (h : parB sc x = true) : sc.names.lookup x = some .local := by
  unfold parB at h
  split at h
  · assumption
  · cases h
theorem s_par {i j : Nat} {x y : Str} {px py pt : Pos} {kt k2 : Nat} {pt2 : Pos} (c : Cok G T W k N sc fnc X) (hi : N[i]? = some x) (hj : N[j]? = some y) (hij : i ≠ j) (hx : parB sc x = true) (hy : parB sc y = true) (ha : PE X a (rE T W na)) (hb : PE X b (rE T W nb))
    (hw : swappedStores [.Tuple [.Name x px, .Name y py] kt pt] (.Tuple [a, b] k2 pt2) X.env = pure (some [x, y])) (hs : (noStar a && noStar b) = true := by rfl) :
    PS X (.Assign [.Tuple [.Name x px, .Name y py] kt pt] (.Tuple [a, b] k2 pt2) pos) (rS T W (parM T.pr i j na nb)) := by
  rw [Bool.and_eq_true] at hs
  exact PS.mono (ps_par c.calm (by rw [c.hN]; exact c.nd) (by rw [c.hN]; exact hi) (by rw [c.hN]; exact hj) hij (by rw [c.hs]; exact par_loc hx) (by rw [c.hs]; exact par_loc hy) (pa_cons ha (pa_cons hb pa_nil (star_cons hs.2 _ _)) (star_cons hs.1 _ _)) hw) fun _ _ _ => par_read
def par3M (pr : Nat → Bool) (i j l : Nat) (na nb nc : M (Bool × D)) : M Out := if pr i || pr j || pr l then fun _ => .stuck else bnd na fun r => bnd nb fun s => bnd nc fun u ρ => .ok .nxt (((ρ.set i (some r)).set j (some s)).set l (some u))
theorem par3_read {i j l : Nat} {D0 : Ends} {σ : St} {H : Hp} (h : rS T W (par3M T.pr i j l na nb nc) D0 σ H) : tPar3 i j l (tCons (rE T W na) (tCons (rE T W nb) (tCons (rE T W nc) tNil))) D0 σ H := by
  obtain ⟨F, ρ, rel, h⟩ := h
  refine ⟨F, ρ, rel, ?_⟩
  unfold par3M at h
  cases hp : T.pr i with
  | true => rw [hp] at h; exact h.elim
  | false =>
    cases hq : T.pr j with
    | true => rw [hp, hq] at h; exact h.elim
    | false =>
      cases hr : T.pr l with
      | true => rw [hp, hq, hr] at h; exact h.elim
      | false =>
        rw [hp, hq, hr] at h
        refine (PostS.ofE h).map fun v H1 ⟨F1, ρ1, fl, d, g1, x1, h1⟩ => ⟨F1, ρ1, g1.rel, ?_⟩
        refine (PostS.ofE2 g1 h1).map fun w H2 ⟨F2, ρ2, fl2, d2, g2, x2, h2⟩ => ⟨F2, ρ2, g2.rel, ?_⟩
        refine (PostS.ofE2 (g1.trans g2) h2).map fun u H3 ⟨F3, ρ3, fl3, d3, g3, x3, h3⟩ => ⟨v, w, u, rfl, ?_⟩
        have g123 := ((g1.trans g2).trans g3).go (pr := T.pr)
        have y1 := x1.later g1 (g2.trans g3)
        have y2 := (x2.later g2 g3).base g1
        have y3 := x3.base (g1.trans g2)
        have s1 := store_go2 hp g123 y1
        have z2 := y2.store2 (i := i) (d := d) g123.rel (x1.apart x2)
        have z3 := y3.store2 (i := i) (d := d) g123.rel ((x1.later g1 g2).apart x3)
        have s2 := store_go2 hq s1 z2
        exact h3 _ _ _ (store_go2 hr s2 (z3.store2 (d := d2) s1.rel (x2.apart x3)))
theorem s_par3 {i j l : Nat} {x y z : Str} {px py pz pt : Pos} {kt k2 : Nat} {pt2 : Pos} (c : Cok G T W k N sc fnc X) (hi : N[i]? = some x) (hj : N[j]? = some y) (hl : N[l]? = some z) (hij : i ≠ j) (hil : i ≠ l) (hjl : j ≠ l) (hx : parB sc x = true) (hy : parB sc y = true) (hz : parB sc z = true) (ha : PE X a (rE T W na)) (hb : PE X b (rE T W nb)) (h3 : PE X e3 (rE T W nc))
    (hw : swappedStores [.Tuple [.Name x px, .Name y py, .Name z pz] kt pt] (.Tuple [a, b, e3] k2 pt2) X.env = pure (some [x, y, z])) (hs : (noStar a && (noStar b && noStar e3)) = true := by rfl) :
    PS X (.Assign [.Tuple [.Name x px, .Name y py, .Name z pz] kt pt] (.Tuple [a, b, e3] k2 pt2) pos) (rS T W (par3M T.pr i j l na nb nc)) := by
  rw [Bool.and_eq_true, Bool.and_eq_true] at hs
  exact PS.mono (ps_par3 c.calm (by rw [c.hN]; exact c.nd) (by rw [c.hN]; exact hi) (by rw [c.hN]; exact hj) (by rw [c.hN]; exact hl) hij hil hjl (by rw [c.hs]; exact par_loc hx) (by rw [c.hs]; exact par_loc hy) (by rw [c.hs]; exact par_loc hz) (pa_cons ha (pa_cons hb (pa_cons h3 pa_nil (star_cons hs.2.2 _ _)) (star_cons hs.2.1 _ _)) (star_cons hs.1 _ _)) hw) fun _ _ _ => par3_read
end
end PK
set_option maxHeartbeats 1000000
namespace PK
open PySem PySem.Spec PyProof.Rows L2
/-! ### a def -/
def initE (mp : Option Nat) : Nat → List D → En
  | _, [] => []
  | j, d :: ds => some (decide (mp = some j), d) :: initE mp (j + 1) ds
/-- the end: what the changed parameter holds -/
def finF (mp : Option Nat) (fl : Bool) (d : D) (ρ : En) : FRes := match mp with
  | none => .ok fl d none
  | some q => match ownD ρ q with
    | some dm => .ok fl d (some dm)
    | none => .stuck
def errF (mp : Option Nat) (x : Exc) (ρ : En) : FRes := match mp with
  | none => .err x
  | some q => match ownD ρ q with
    | some _ => .err x
    | none => .stuck
def endF (mp : Option Nat) : Res Out → FRes
  | .ok .nxt ρ => finF mp false .none ρ
  | .ok (.ret fl d) ρ => finF mp fl d ρ
  | .ok .brk _ => .stuck
  | .ok .cnt _ => .stuck
  | .err x ρ => errF mp x ρ
  | .stuck => .stuck
def fnM (mp : Option Nat) (n : Nat) (body : M Out) (ds : List D) : FRes := endF mp (body (initE mp 0 ds ++ List.replicate (n - ds.length) none))
theorem initE_len (mp : Option Nat) : ∀ (ds : List D) (j : Nat), (initE mp j ds).length = ds.length
  | [], _ => rfl
  | d :: ds, j => by unfold initE; rw [List.length_cons, List.length_cons, initE_len mp ds]
theorem ArgsOk.length {K : PySem.W.Frag} {F H : Hp} {mp : Option Nat} : ∀ {vs : List V} {ds : List D} {j : Nat}, ArgsOk K F H mp j vs ds → vs.length = ds.length
  | _, _, _, .nil => rfl
  | _, _, _, .cons _ t => by rw [List.length_cons, List.length_cons, ArgsOk.length t]
theorem args_cell {K : PySem.W.Frag} {F H : Hp} {mp : Option Nat} : ∀ {vs : List V} {ds : List D} {j : Nat}, ArgsOk K F H mp j vs ds → ∀ (i : Nat) (c : Bool × D), (initE mp j ds)[i]? = some (some c) → ∃ v, vs[i]? = some v ∧ CellOk K F H v c ∧ (c.1 = true → mp = some (j + i))
  | _, _, _, .nil, i, c, h => by simp [initE] at h
  | _, _, j, .cons (v := v) (d := d) a t, 0, c, h => by
    simp [initE] at h
    subst h
    refine ⟨v, rfl, ?_, fun q => by simpa using q⟩
    cases e : decide (mp = some j) with
    | true => rw [e] at a; cases a with | mt h1 h2 h3 => exact .own h1 h2 h3
    | false => rw [e] at a; cases a with | shr h => exact .shr h
  | _, _, j, .cons (v := v) (d := d) a t, i + 1, c, h => by
    unfold initE at h
    rw [List.getElem?_cons_succ] at h
    obtain ⟨w, h1, h2, h3⟩ := args_cell t i c h
    exact ⟨w, by rw [List.getElem?_cons_succ]; exact h1, h2, fun q => by rw [h3 q, show j + 1 + i = j + (i + 1) by omega]⟩
theorem env_cell {K : PySem.W.Frag} {F H : Hp} {mp : Option Nat} {vs : List V} {ds : List D} {n m : Nat} (a : ArgsOk K F H mp 0 vs ds) (i : Nat) (c : Bool × D) (h : (initE mp 0 ds ++ List.replicate n none)[i]? = some (some c)) :
    ∃ v, vs[i]? = some v ∧ (vs.map some ++ List.replicate m none)[i]? = some (some v) ∧ CellOk K F H v c ∧ (c.1 = true → mp = some i) := by
  have hl := initE_len mp ds 0
  have hv := a.length
  by_cases hi : i < ds.length
  · rw [List.getElem?_append_left (by omega)] at h
    obtain ⟨v, h1, h2, h3⟩ := args_cell a i c h
    refine ⟨v, h1, ?_, h2, fun q => by have := h3 q; rwa [Nat.zero_add] at this⟩
    rw [List.getElem?_append_left (by simp; omega), List.getElem?_map, h1]; rfl
  · rw [List.getElem?_append_right (by omega)] at h
    exfalso
    rw [List.getElem?_replicate] at h
    split at h <;> cases h
section
variable {G : G0} {T : XT} {k : Nat}
/-- T in a def whose parameter mp is changed -/
def XT.fn (T : XT) (mp : Option Nat) : XT := { T with pr := fun i => decide (mp = some i) }
theorem ExcOk.pr {T : XT} {p : Nat → Bool} {F : Hp} {c : Value} {d : Option Addr} {x : Exc} (h : ExcOk T F c d x) : ExcOk { T with pr := p } F c d x := by
  cases h with
  | np => exact .np
  | tl => exact .tl
  | te h a b => exact .te h a b
theorem ExcOk.unpr {T : XT} {p : Nat → Bool} {F : Hp} {c : Value} {d : Option Addr} {x : Exc} (h : ExcOk { T with pr := p } F c d x) : ExcOk T F c d x := by
  cases h with
  | np => exact .np
  | tl => exact .tl
  | te h a b => exact .te h a b
theorem SpF.pr {T : XT} {p : Nat → Bool} {np : Nat} {mp : Option Nat} {f : List D → FRes} {vs : List V} {H : Hp} {Q : VK} {E : XK} (h : SpF { T with pr := p } np mp f vs H Q E) : SpF T np mp f vs H Q E := by
  obtain ⟨F, ds, h1, h2, h3, h4⟩ := h
  refine ⟨F, ds, h1, h2, h3, ?_⟩
  unfold PostF at h4 ⊢
  split at h4
  · exact h4
  · exact fun F' H' c dx g x => h4 F' H' c dx g x.pr
  · exact h4
theorem FnIn.pr {n : Nat} {x : Str} {np : Nat} {mp : Option Nat} {C : List D → FRes} (h : FnIn G T n x np mp C) (p : Nat → Bool) : FnIn G { T with pr := p } n x np mp C := by
  obtain ⟨f, fd, ps, h1, h2, h3, h4⟩ := h.ex
  exact ⟨f, fd, ps, h1, h2, h3, h4.imp fun vs H Q E => SpF.pr⟩
/-- statements' own needs of a context -/
structure Sok (X : Cx) (W : WX) : Prop where
  own : PassesOwn (model X.prog X.w) X.A X.env X.xe
  st : X.stack = X.env :: X.outer
  fr : X.env.frame = some X.env.locals
  tk : Takes X W
def fnT : Str → Bool := fun _ => true
theorem fn_post {N : List Str} {mp : Option Nat} {F H : Hp} {vs : List V} {ds : List D} {Q : VK} {E : XK} {r : Res Out} (a : ArgsOk T.K F H mp 0 vs ds) (rel : Rel T.K F (start N vs) H (initE mp 0 ds ++ List.replicate (N.length - ds.length) none)) (h : PostF T mp F H vs (endF mp r) Q E) :
    PostS (T.fn mp) (fun cls d _ H => E cls d H) { nx := fun _ H' => Q .non H', rt := Q } F (start N vs) H (initE mp 0 ds ++ List.replicate (N.length - ds.length) none) r := by
  have own0 : ∀ b, Own (start N vs) (initE mp 0 ds ++ List.replicate (N.length - ds.length) none) b → MutA mp vs b := fun b ⟨i, d, q, s⟩ => by
    obtain ⟨v, h1, h2, h3, h4⟩ := env_cell (m := N.length - vs.length) a i _ q
    have s : (vs.map some ++ List.replicate (N.length - vs.length) none)[i]? = some (some (.ref b)) := s
    rw [h2] at s
    cases s
    exact ⟨i, h4 rfl, h1⟩
  -- the changed parameter's object at the end
  have fin : ∀ {q : Nat} {dm : D} {F' H' : Hp} {σ' : St} {ρ' : En}, mp = some q → ownD ρ' q = some dm → Go T.K (T.fn mp).pr F (start N vs) H (initE mp 0 ds ++ List.replicate (N.length - ds.length) none) F' σ' H' ρ' →
      ∃ b o, (start N vs)[q]? = some (some (.ref b)) ∧ σ'[q]? = some (some (.ref b)) ∧ F' b = none ∧ H' b = some o ∧ Top T.K F' o dm ∧ Own σ' ρ' b := fun {q dm F' H' σ' ρ'} hm ho g => by
    obtain ⟨b, eb⟩ := own_ref g.rel ho
    obtain ⟨v, ev, c⟩ := g.rel.cell q _ (ownD_of ho)
    rw [eb] at ev
    cases ev
    obtain ⟨b', o, e, h1, h2, h3⟩ := cell_own c
    cases e
    have ep := g.prot q (decide_eq_true hm)
    exact ⟨b, o, by rw [← ep]; exact eb, eb, h1, h2, h3, q, dm, ownD_of ho, eb⟩
  have vsq : ∀ {q : Nat} {b : Addr}, (start N vs)[q]? = some (some (.ref b)) → vs[q]? = some (.ref b) := fun {q b} e => by
    have e : (vs.map some ++ List.replicate (N.length - vs.length) none)[q]? = some (some (.ref b)) := e
    by_cases hq : q < vs.length
    · rw [List.getElem?_append_left (by simpa using hq), List.getElem?_map] at e
      cases z : vs[q]? with
      | none => rw [z] at e; cases e
      | some w => rw [z] at e; cases e; rfl
    · rw [List.getElem?_append_right (by simpa using hq), List.getElem?_replicate] at e
      split at e <;> cases e
  have callGo : ∀ {F' H' : Hp} {σ' : St} {ρ' : En}, (∀ q, mp = some q → ∃ dm, ownD ρ' q = some dm) → Go T.K (T.fn mp).pr F (start N vs) H (initE mp 0 ds ++ List.replicate (N.length - ds.length) none) F' σ' H' ρ' → CallGo F H (MutA mp vs) F' H' := fun {F' H' σ' ρ'} hq g => by
    refine ⟨g.ext, fun b h1 h2 => ?_, fun b o h1 h2 => g.keep b o h1 fun z => h2 (own0 b z), g.rel.sub, g.dom⟩
    rcases g.new b h1 h2 with z | z
    · exact z
    · obtain ⟨q, hm, hv⟩ := own0 b z
      obtain ⟨dm, ho⟩ := hq q hm
      obtain ⟨b', o, e1, _, e2, _⟩ := fin hm ho g
      rw [vsq e1] at hv
      cases hv
      exact absurd e2 h2
  have mutOk : ∀ {F' H' : Hp} {σ' : St} {ρ' : En} {m : Option D}, (∀ q, mp = some q → ∃ dm, ownD ρ' q = some dm ∧ m = some dm) → Go T.K (T.fn mp).pr F (start N vs) H (initE mp 0 ds ++ List.replicate (N.length - ds.length) none) F' σ' H' ρ' → MutOk T.K F' H' mp vs m := fun {F' H' σ' ρ' m} hq g => by
    cases e : mp with
    | none => exact .none rfl
    | some q =>
      obtain ⟨dm, ho, rfl⟩ := hq q e
      obtain ⟨b, o, e1, _, h1, h2, h3, _⟩ := fin e ho g
      exact .some rfl (vsq e1) h1 h2 h3
  have newOk : ∀ {F' H' : Hp} {σ' : St} {ρ' : En} {fl : Bool} {v : V} {d : D}, (∀ q, mp = some q → ∃ dm, ownD ρ' q = some dm) → Go T.K (T.fn mp).pr F (start N vs) H (initE mp 0 ds ++ List.replicate (N.length - ds.length) none) F' σ' H' ρ' →
      ValOk T.K (start N vs) H (initE mp 0 ds ++ List.replicate (N.length - ds.length) none) F' H' σ' ρ' fl v d → NewOk T.K H F' H' fl v d := fun {F' H' σ' ρ' fl v d} hq g x => by
    cases x with
    | shr e => exact .shr e
    | @own b o _ h1 h2 h3 h4 h5 =>
      refine .own h1 h2 h3 ?_
      rcases h4 with z | z
      · exact z
      · obtain ⟨q, hm, hv⟩ := own0 b z
        obtain ⟨dm, ho⟩ := hq q hm
        obtain ⟨b', o, e1, _, e2, _, _, e3⟩ := fin hm ho g
        rw [vsq e1] at hv
        cases hv
        exact absurd e3 h5
  -- one end for both ways out
  have main : ∀ {fl : Bool} {d : D} {ρ' F' : _} {σ' : St} {H' : Hp} {v : V}, PostF T mp F H vs (finF mp fl d ρ') Q E → Go T.K (T.fn mp).pr F (start N vs) H (initE mp 0 ds ++ List.replicate (N.length - ds.length) none) F' σ' H' ρ' →
      ValOk T.K (start N vs) H (initE mp 0 ds ++ List.replicate (N.length - ds.length) none) F' H' σ' ρ' fl v d → Q v H' := fun {fl d ρ' F' σ' H' v} h g x => by
    unfold finF at h
    cases e : mp with
    | none =>
      rw [e] at h
      simp only at h
      have hq : ∀ q, mp = some q → ∃ dm, ownD ρ' q = some dm := fun q z => by rw [e] at z; cases z
      have cg := callGo hq g
      rw [e] at cg
      exact h F' H' v cg (newOk hq g x) (.none rfl)
    | some q =>
      rw [e] at h
      simp only at h
      cases ho : ownD ρ' q with
      | none => rw [ho] at h; exact h.elim
      | some dm =>
        rw [ho] at h
        have hq : ∀ q, mp = some q → ∃ dm', ownD ρ' q = some dm' ∧ some dm = some dm' := fun q' z => by rw [e] at z; cases z; exact ⟨dm, ho, rfl⟩
        have hq' : ∀ q, mp = some q → ∃ dm', ownD ρ' q = some dm' := fun q' z => (hq q' z).elim fun a b => ⟨a, b.1⟩
        have cg := callGo hq' g
        have mo := mutOk hq g
        rw [e] at cg mo
        exact h F' H' v cg (newOk hq' g x) mo
  cases r with
  | stuck => exact h
  | err x ρ' =>
    have h : PostF T mp F H vs (errF mp x ρ') Q E := h
    intro F' σ' H' c dx g ex
    unfold errF at h
    cases e : mp with
    | none =>
      rw [e] at h
      have hq : ∀ q, mp = some q → ∃ dm, ownD ρ' q = some dm := fun q z => by rw [e] at z; cases z
      have cg := callGo hq g
      rw [e] at cg
      exact h F' H' c dx cg ex.unpr
    | some q =>
      rw [e] at h
      simp only at h
      cases ho : ownD ρ' q with
      | none => rw [ho] at h; exact h.elim
      | some dm =>
        rw [ho] at h
        have hq : ∀ q, mp = some q → ∃ dm', ownD ρ' q = some dm' := fun q' z => by rw [e] at z; cases z; exact ⟨dm, ho⟩
        have cg := callGo hq g
        rw [e] at cg
        exact h F' H' c dx cg ex.unpr
  | ok o ρ' =>
    cases o with
    | nxt => exact fun F' σ' H' g => main h g (.shr .non)
    | brk => exact h.elim
    | cnt => exact h.elim
    | ret fl d => exact fun F' σ' H' v g x => main h g x
theorem fn_ok {x qual : Str} {st : Stmt} {f : Addr} {fd : FuncData} {N ps : List Str} {mp : Option Nat} {body : M Out} (F : Fun T.K x qual st f fd) (S : FnScope N ps (defScope st))
    (hbody : ∀ (W : WX) (X : Cx), Cok G (T.fn mp) W k N (defScope st) fnT X → Sok X W → PSs X (defBody st) (rS (T.fn mp) W body)) :
    FnOk G.P G.w T.K G.mg G.base (L2.CX G.P G.w) (k + 1) f fd ps (SpF T ps.length mp (fnM mp N.length body)) := by
  refine F.okX S (fun vs H Q E h => ?_) (fun cdv A outer s H vs Q E hr hsp => ⟨_, hbody (fun cls d _ H => E cls d H) _ ?_ ?_, ?_⟩)
  · obtain ⟨_, _, _, h, _⟩ := h
    exact h
  · exact ⟨rfl, rfl, rfl, rfl, rfl, rfl, S.nd, rfl, rfl, hr, fun σ => passAt (takes_of rfl rfl rfl rfl) σ, rfl⟩
  · exact ⟨passes_of rfl, rfl, rfl, takes_of rfl rfl rfl rfl⟩
  · obtain ⟨F0, ds, h1, h2, h3, h4⟩ := hsp
    have hl := h3.length
    have rel : Rel T.K F0 (start N vs) H (initE mp 0 ds ++ List.replicate (N.length - ds.length) none) := by
      refine ⟨h1, ?_, fun i c e => ?_, fun i j a d e q1 q2 s1 s2 => ?_⟩
      · unfold L2.start
        rw [List.length_append, List.length_append, initE_len, List.length_map, List.length_replicate, List.length_replicate, hl]
      · obtain ⟨v, _, e2, c', _⟩ := env_cell (m := N.length - vs.length) h3 i c e
        exact ⟨v, e2, c'⟩
      · obtain ⟨_, _, _, _, m1⟩ := env_cell (m := N.length - vs.length) h3 i _ q1
        obtain ⟨_, _, _, _, m2⟩ := env_cell (m := N.length - vs.length) h3 j _ q2
        have := m1 rfl
        rw [m2 rfl] at this
        cases this
        rfl
    exact ⟨F0, _, rel, fn_post h3 rel h4⟩
end
end PK
set_option maxHeartbeats 1000000
namespace PK
open PySem PySem.Spec PyProof.Rows L2
section
variable {G : G0} {T : XT} {W : WX} {k : Nat} {N : List Str} {sc : Scope} {fnc : Str → Bool} {X : Cx} {pos p tpos : Pos} {tg a b e : Expr} {es : List Expr} {ma mb mc : M Tok} {na nb nc nk : M (Bool × D)} {ms : M (List Tok)} {ml : M (List D)} {tc : M Bool} {m1 m2 : M Out}
/-! ### raise -/
def raiseM (x : Exc) : M Out := fun ρ => .err x ρ
/-- an own class of exceptions that only passes its argument on -/
structure ExcCls (G : G0) (T : XT) (x : Str) (C : Addr) : Prop where
  ex : ∃ (bmB : List Value) (B newId initId : String), ExcBaseFacts B newId initId bmB ∧ PySem.W.excIn T.K C bmB newId = true
  gC : G.mg x = some (.ref C)
  kC : PySem.W.keepIn T.K (.ref C) = true
  sub : PySem.W.subIn T.K (.ref C) (.type "BaseException") = some true
  ty : PySem.W.typeIn T.K (.ref C) = some (.type "type")
theorem s_raise {x : Str} {C : Addr} {ex : Exc} {m : Str} {j : Nat} {p2 pos2 : Pos} (c : Cok G T W k N sc fnc X) (S : Sok X W) (E : ExcCls G T x C) (hx : ∀ F, ExcOk T F (.ref C) none ex) (hg : sc.names.lookup x = some .globalImplicit) (hdb : (x == ("__debug__" : Str)) = false := by decide) :
    PS X (.Raise (some (.Call (.Name x p) [.Constant (.str m) j p2] [] pos)) none pos2) (rS T W (raiseM ex)) := by
  obtain ⟨bmB, B, newId, initId, F, q⟩ := E.ex
  have r : Raises X (.ref C) := raises_own (by rw [c.hK]; exact E.sub) (by rw [c.hK]; exact E.ty)
  refine PS.mono (L2.ps_raise c.calm S.tk (pmk_own (m := m) (p2 := p2) (j := j) F (by rw [c.hK]; exact q) (by rw [c.hm]; exact E.gC) (by rw [c.hK]; exact E.kC) r (show X.env.scope.names.lookup x = _ by rw [c.hs]; exact hg) hdb)) fun D0 σ H ⟨F0, ρ, rel, h⟩ => ?_
  exact h F0 σ H (.ref C) none (Go.refl rel) (hx F0)
/-- .. with any arguments -/
def raiseA (x : Exc) (ms : M (List Tok)) : M Out := bnd ms fun ts ρ => if ts.length ≤ LIM then .err x ρ else .stuck
theorem PostS.ofA {D0 : Ends} {F H : Hp} {σ : St} {ρ : En} {kk : List Tok → M Out} (h : PostS T W D0 F σ H ρ (bnd ms kk ρ)) :
    PostA T W F σ H ρ (ms ρ) fun v H1 => ∃ F1 ρ1 t, GoE T.K F σ H ρ F1 H1 ρ1 ∧ Toks T.K F1 σ ρ1 v t ∧ PostS T W D0 F σ H ρ (kk t ρ1) := by
  unfold bnd at h
  cases e : ms ρ with
  | ok t ρ1 => rw [e] at h; exact fun F1 H1 v g x => ⟨F1, ρ1, t, g, x, h⟩
  | err x ρ1 => rw [e] at h; exact fun F1 H1 c dx g ex => h F1 σ H1 c dx g.go ex
  | stuck => rw [e] at h; exact h
theorem Toks.length {K : PySem.W.Frag} {F : Hp} {σ : St} {ρ : En} {vs : List V} {ts : List Tok} (h : Toks K F σ ρ vs ts) : vs.length = ts.length := by
  induction h with
  | nil => rfl
  | cons _ _ ih => rw [List.length_cons, List.length_cons, ih]
theorem s_raiseA {x : Str} {C : Addr} {ex : Exc} {pos2 : Pos} (c : Cok G T W k N sc fnc X) (S : Sok X W) (E : ExcCls G T x C) (hx : ∀ F, ExcOk T F (.ref C) none ex) (hg : sc.names.lookup x = some .globalImplicit) (ha : PA X (e :: es) (rA T W ms)) (hs : (e :: es).all noStar = true := by rfl) (hdb : (x == ("__debug__" : Str)) = false := by decide) :
    PS X (.Raise (some (.Call (.Name x p) (e :: es) [] pos)) none pos2) (rS T W (raiseA ex ms)) := by
  obtain ⟨bmB, B, newId, initId, F, q⟩ := E.ex
  rw [List.all_cons, Bool.and_eq_true] at hs
  have r : Raises X (.ref C) := raises_own (by rw [c.hK]; exact E.sub) (by rw [c.hK]; exact E.ty)
  refine PS.mono (L2.ps_raise c.calm S.tk (pmk_ownA F (by rw [c.hK]; exact q) (by rw [c.hm]; exact E.gC) (by rw [c.hK]; exact E.kC) r (show X.env.scope.names.lookup x = _ by rw [c.hs]; exact hg) ha hdb (star_cons hs.1 _ _) (back_any hs.2))) fun D0 σ H ⟨F0, ρ, rel, h⟩ => ⟨F0, ρ, rel, ?_⟩
  refine (PostS.ofA h).map fun vs H1 ⟨F1, ρ1, ts, g1, tk, h1⟩ => ?_
  split at h1
  · rename_i hl
    exact ⟨by rw [tk.length, lim_eq]; exact hl, h1 F1 σ H1 (.ref C) none g1.go (hx F1)⟩
  · exact h1.elim

/-! ### try -/
/-- the handlers: does the class match; the suite -/
def catM : List ((Exc → Option Bool) × M Out) → Exc → M Out
  | [], x => fun ρ => .err x ρ
  | (cat, m) :: r, x => match cat x with
    | some true => noErr m
    | some false => catM r x
    | none => fun _ => .stuck
def tryM (m : M Out) (hs : List ((Exc → Option Bool) × M Out)) : M Out := fun ρ => match m ρ with
  | .err x ρ' => catM hs x ρ'
  | r => r
def CatOk (T : XT) (c : Value) (cat : Exc → Option Bool) : Prop := ∀ F cls d x b, ExcOk T F cls d x → cat x = some b → PySem.W.exmOne T.K cls c = some b
inductive HdM (T : XT) (X : Cx) : List ExceptHandler → List ((Exc → Option Bool) × M Out) → Prop
  | nil : HdM T X [] []
  | cons {x : Str} {c : Value} {cat : Exc → Option Bool} {m : M Out} {b₀ : Stmt} {suite : List Stmt} {np pos' : Pos} {hds : List ExceptHandler} {l : List ((Exc → Option Bool) × M Out)} (hc : Names X x c) (hk : CatOk T c cat)
      (hsu : ∀ X' : Cx, X'.N = X.N → X'.env = X.env → X'.K = X.K → X'.mg = X.mg → PSs X' (b₀ :: suite) (rS T WF m)) (r : HdM T X hds l) : HdM T X (.ExceptHandler (some (.Name x np)) none (b₀ :: suite) pos' :: hds) ((cat, m) :: l)
theorem PostS.wf {D0 : Ends} {F H : Hp} {σ : St} {ρ : En} {m : M Out} {ρ1 : En} (h : PostS T W D0 F σ H ρ (noErr m ρ1)) : PostS T WF D0 F σ H ρ (m ρ1) := by
  unfold noErr at h
  cases e : m ρ1 with
  | stuck => rw [e] at h; exact h.elim
  | err x ρ' => rw [e] at h; exact h.elim
  | ok o ρ' =>
    rw [e] at h
    cases o <;> exact h
theorem hd_ok {hds : List ExceptHandler} {l : List ((Exc → Option Bool) × M Out)} (hh : HdM T X hds l) (hK : X.K = T.K) : ∃ l', L2.HdsOk X hds l' ∧ ∀ (D0 : Ends) (F F' H H' : Hp) (σ σ' : St) (ρ ρ' : En) (x : Exc) (cls : Value) (d : Option Addr),
    PostS T W D0 F σ H ρ (catM l x ρ') → Go T.K T.pr F σ H ρ F' σ' H' ρ' → ExcOk T F' cls d x → L2.wMany X.K W D0 l' cls d σ' H' := by
  induction hh with
  | nil => exact ⟨[], .nil, fun D0 F F' H H' σ σ' ρ ρ' x cls d h g ex => h F' σ' H' cls d g ex⟩
  | @cons xn c cat m b₀ suite np pos' hds l hc hk hsu r ih =>
    obtain ⟨l', i1, i2⟩ := ih
    refine ⟨(c, fun _ _ _ => rS T WF m) :: l', .cons hc (fun a oe cls d pn _ _ => hsu _ rfl rfl rfl rfl) i1, fun D0 F F' H H' σ σ' ρ ρ' x cls d h g ex => ?_⟩
    unfold catM at h
    cases e : cat x with
    | none => rw [e] at h; exact h.elim
    | some bb =>
      rw [e] at h
      rw [hK]
      refine ⟨bb, hk _ _ _ _ _ ex e, fun q a _ => ?_, fun q => ?_⟩
      · subst q
        exact ⟨F', ρ', g.rel, PostS.later (PostS.wf h) g⟩
      · subst q
        have := i2 D0 F F' H H' σ σ' ρ ρ' x cls d h g ex
        rw [hK] at this
        exact this
theorem Cok.tr (c : Cok G T W k N sc fnc X) {W' : WX} {pn : List (Addr × Obj)} {xe : Value → Shared → Prop} (tk : Takes (X.tr pn xe) W') : Cok G T W' k N sc fnc (X.tr pn xe) :=
  ⟨c.hP, c.hw, c.hK, c.hm, c.hb, c.hN, c.nd, c.hs, c.calm, c.room, fun σ => passAt tk σ, c.hfn⟩
theorem s_try {body : List Stmt} {h₀ : ExceptHandler} {hds : List ExceptHandler} {l : List ((Exc → Option Bool) × M Out)} (c : Cok G T W k N sc fnc X) (S : Sok X W) (hb : ∀ (W : WX) (X : Cx), Cok G T W k N sc fnc X → Sok X W → PSs X body (rS T W m1)) (hh : HdM T X (h₀ :: hds) l) :
    PS X (.Try body (h₀ :: hds) [] [] pos) (rS T W (tryM m1 l)) := by
  obtain ⟨l', i1, i2⟩ := hd_ok (W := W) hh c.hK
  refine PS.mono (L2.ps_try_many (tb := fun W => rS T W m1) S.st S.fr S.tk (fun W' pn xe tk hp => hb W' _ (c.tr tk) ⟨hp, S.st, S.fr, tk⟩) i1) fun D0 σ H ⟨F, ρ, rel, h⟩ => ⟨F, ρ, rel, ?_⟩
  unfold tryM at h
  cases e : m1 ρ with
  | stuck => rw [e] at h; exact h.elim
  | ok o ρ' => rw [e] at h; cases o <;> exact h
  | err x ρ' =>
    rw [e] at h
    exact fun F' σ' H' cls d g ex => i2 D0 F F' H H' σ σ' ρ ρ' x cls d h g ex
end
end PK
set_option maxHeartbeats 1000000
namespace PK
open PySem PySem.Spec PyProof.Rows L2
open PySem.W (dataLe dataLt alike AllAlike Sortable EachIs sortingHeap sortingHeap_old)
/-! ### sorted -/
def sortV (xs : List V) (ds : List D) : List V := ((xs.zip ds).mergeSort (dataLe false (·.2))).map (·.1)
def sortD (ds : List D) : List D := ds.mergeSort (dataLe false id)
def sortB (ds : List D) : Bool := (ds.all fun d => ds.all fun e => alike d e) && ((ds.all fun d => match d with | .tuple (_ :: _) => true | _ => false) || ds.all fun d => match d with | .none => false | .tuple _ => false | _ => true)
theorem sortB_of {ds : List D} (h : sortB ds = true) : AllAlike ds ∧ Sortable ds := by
  unfold sortB at h
  rw [Bool.and_eq_true, Bool.or_eq_true] at h
  refine ⟨fun d hd e he => List.all_eq_true.mp (List.all_eq_true.mp h.1 d hd) e he, ?_⟩
  rcases h.2 with h | h
  · refine .inl fun d hd => ?_
    have := List.all_eq_true.mp h d hd
    split at this
    · exact ⟨_, _, rfl⟩
    · cases this
  · refine .inr fun d hd => ?_
    have := List.all_eq_true.mp h d hd
    split at this
    · cases this
    · cases this
    · rename_i n1 n2
      exact ⟨n1, n2⟩
section
variable {X : Cx} {pins : List (Addr × Obj)} {s : Shared} {σ : St} {H : Hp}
theorem zip_map2 {α β : Type} : ∀ {xs : List α} {ds : List β}, xs.length = ds.length → (xs.zip ds).map (·.2) = ds
  | [], [], _ => rfl
  | x :: xs, d :: ds, h => by
    rw [List.zip_cons_cons, List.map_cons, zip_map2 (by simpa using h)]
theorem DpAll.len {K : PySem.W.Frag} : ∀ {xs : List V} {ds : List D}, DpAll K H xs ds → xs.length = ds.length
  | _, _, .nil => rfl
  | _, _, .cons _ t => by rw [List.length_cons, List.length_cons, DpAll.len t]
theorem each_rel : ∀ {xs : List V} {us : List Value} {ds : List D}, Vals xs us → xs.length = ds.length → EachIs (fun u (b : V × D) => RelV b.1 u) us (xs.zip ds)
  | _, _, [], .nil, _ => .nil
  | _, _, d :: ds, .cons r t, h => .cons r (each_rel t (by simpa using h))
theorem each_reads (I : Inv X pins σ H s) : ∀ {xs : List V} {us : List Value} {ds : List D}, Vals xs us → DpAll X.K H xs ds → EachIs (fun u (b : V × D) => ∃ as, Reads s.heap u b.2 as) us (xs.zip ds)
  | _, _, _, .nil, .nil => .nil
  | _, _, _, .cons r t, .cons d e => .cons (Dp.reads I _ _ _ d r) (each_reads I t e)
theorem each_vals {α : Type} {f : α → V} : ∀ {us : List Value} {bs : List α}, EachIs (fun u b => RelV (f b) u) us bs → Vals (bs.map f) us
  | _, _, .nil => .nil
  | _, _, .cons r t => .cons r (each_vals t)
theorem EachIs.keep {h h' : Heap} (k : ∀ b o, h.get? b = some o → h'.get? b = some o) : ∀ {us : List Value} {bs : List (V × D)}, EachIs (fun u (b : V × D) => ∃ as, Reads h u b.2 as) us bs → EachIs (fun u (b : V × D) => ∃ as, Reads h' u b.2 as) us bs
  | _, _, .nil => .nil
  | _, _, .cons ⟨as, r⟩ t => .cons ⟨as, PyProof.Rows.Reads.keeps k r⟩ (EachIs.keep k t)
theorem vals_at : ∀ {xs : List V} {us : List Value}, us.length = xs.length → (∀ (j : Nat) (v : V) (u : Value), xs[j]? = some v → us[j]? = some u → RelV v u) → Vals xs us
  | [], [], _, _ => .nil
  | x :: xs, u :: us, h, k => .cons (k 0 x u rfl rfl) (vals_at (by simpa using h) fun j v u a b => k (j + 1) v u (by simpa using a) (by simpa using b))
/-- a new list of the values, sorted -/
theorem sort_tail {A : Around} {E : Value → Shared → Prop} {xs : List V} {us : List Value} {ds : List D} {P : PySem.Fin → Shared → Prop} (I : Inv X pins σ H s) (rv : Vals xs us) (dp : DpAll X.K H xs ds) (hs : sortB ds = true) (hL : ds.length ≤ sizeLine) (hu : ∀ d ∈ ds, A.units + 1 + d.depth < cLine)
    (fin : ∀ s' p, Inv X pins σ (upd H p (.lst (sortV xs ds))) s' → H p = none → wpAny (model X.prog X.w) A (ret (.ref p)) P E s') :
    wpAny (model X.prog X.w) A (do
      let l ← newList us
      let _ ← holding [l] (call (.builtin "list.sort") [l] [])
      ret l) P E s := by
  obtain ⟨hal, hk⟩ := sortB_of hs
  have l1 : xs.length = ds.length := DpAll.len dp
  have l2 : us.length = ds.length := by rw [← rv.length, l1]
  have hz : (xs.zip ds).map (·.2) = ds := zip_map2 l1
  have e := each_rel rv l1
  have er := each_reads I rv dp
  refine wpAny_bind (wpAny_newList ?_ (by rw [l2]; exact hL))
  have hoL : (s.heap.push (seqObj "list" us.toArray 0)).get? s.heap.objs.size = some (seqObj "list" us.toArray 0) := Heap.get?_push_size _ rfl
  show wpAny _ _ _ _ _ { s with heap := s.heap.push (seqObj "list" us.toArray 0) }
  have old : ∀ b o, s.heap.get? b = some o → (sortingHeap (s.heap.push (seqObj "list" us.toArray 0)) s.heap.objs.size us).get? b = some o := fun b o q => sortingHeap_old (Nat.ne_of_lt (Heap.lt_size q)) (Heap.get?_push_of_some _ q)
  refine wpAny_bind (wpAny_holding (wpAny_call_entry PyProof.Rows.slot_list_sort ⟨_, hoL, rfl⟩ PyProof.Rows.entry_list_sort
    (PySem.W.list_sort_vals (s := { s with heap := s.heap.push (seqObj "list" us.toArray 0) }) (κ := PySem.W.dataKind (sortingHeap (s.heap.push (seqObj "list" us.toArray 0)) s.heap.objs.size us) ((xs.zip ds).map (·.2))) hoL
      (PySem.W.SortsAt.data (s := { s with heap := sortingHeap (s.heap.push (seqObj "list" us.toArray 0)) s.heap.objs.size us }) (PySem.W.each_map (R := fun v d => ∃ as, Reads (sortingHeap (s.heap.push (seqObj "list" us.toArray 0)) s.heap.objs.size us) v d as) (fun b : V × D => b.2) (EachIs.keep old er)) (by rw [hz]; exact hal) (by rw [hz]; exact hk) (by rw [hz]; exact hu)) (by rw [l2]; exact hL) ⟨.none, rfl, ?_⟩) (PyProof.Rows.args_list_sort _)))
  have out := PySem.W.sortVals_data (enc := fun b : V × D => b.2) false e (EachIs.keep old er) (by rw [hz]; exact hal)
  obtain ⟨e', he'⟩ := PyProof.Rows.sortedHeap_at (vs := us) (out := (PySem.W.sortVals (PySem.W.dataKind (sortingHeap (s.heap.push (seqObj "list" us.toArray 0)) s.heap.objs.size us) ((xs.zip ds).map (·.2))) false us us).toArray) hoL
  have rv2 := each_vals (f := fun b : V × D => b.1) out
  refine fin _ s.heap.objs.size (I.laid (fun b u q => ?_) (Nat.le_refl _) (show ObjOk X.prog X.w _ _ _ (.lst (sortV xs ds)) from ⟨?_, _, e', rv2, he'⟩)) (I.hok.fresh (Nat.le_refl _))
  · have hb : b < s.heap.objs.size := Heap.lt_size q
    rw [PyProof.Rows.sortedHeap_old (Nat.ne_of_lt hb) (by rw [size_push']; exact Nat.lt_succ_of_lt hb)]
    exact Heap.get?_push_of_some _ q
  · unfold sortV
    rw [List.length_map, List.length_mergeSort, List.length_zip, l1, Nat.min_self]
    exact hL
/-- sorted(x): a list, a tuple, or a dict's keys -/
def rSortAll (K : PySem.W.Frag) : List V → Hp → VK → Prop := fun vs H Q => ∃ (a : Addr) (xs : List V) (ds : List D), vs = [.ref a] ∧ (SqL K H a xs ∨ SqT K H a xs ∨ ∃ kvs : List (Key × V), Rd H a (.dK kvs) ∧ xs = kvs.map fun kv => kV kv.1) ∧ DpAll K H xs ds ∧ sortB ds = true ∧ (∀ d ∈ ds, d.depth ≤ 70) ∧ ∀ p, H p = none → Q (.ref p) (upd H p (.lst (sortV xs ds)))
theorem call_sorted (hc : X.calm = true) (hu : X.A.units + 100 < cLine) : CallR X (.builtin "sorted") (rSortAll X.K) := by
  intro pins s σ H vs us Q I r h
  obtain ⟨a, xs, ds, rfl, hsrc, dp, hs, hd, q⟩ := h
  obtain ⟨u, rfl, ru⟩ := vals1 r
  obtain rfl : u = Value.ref a := ru
  have l1 : xs.length = ds.length := DpAll.len dp
  refine Calls.call_function_entry PyProof.Rows.kind_sorted PyProof.Rows.plain_sorted PyProof.Rows.entry_sorted (PyProof.Rows.args_sorted1 _) ?_
  unfold Builtin.«sorted»
  refine wpAny_bind (m := checkCount "sorted" 1 1 _) (wpAny_pure ?_)
  have tail : ∀ (h' : Heap) (tk : Nat) (ws : List Value), (∀ b o, s.heap.get? b = some o → h'.get? b = some o) → Vals xs ws → xs.length ≤ sizeLine →
      wpAny (model X.prog X.w) X.A.in1 (do
        let l ← newList ws
        let _ ← holding [l] (call (.builtin "list.sort") [l] [])
        ret l) (fun f s' => ∃ v, f = .done (.ret v) ∧ EP X pins σ Q v s') X.xe { s with heap := h', toks := tk } := fun h' tk ws k rv hz => by
    have I1 : Inv X pins σ H { s with heap := h', toks := tk } := I.kept k
    refine sort_tail I1 rv dp hs (by rw [← l1]; exact hz) (fun d m => ?_) fun s' p I2 hp => wpAny_pure ⟨_, rfl, .ref p, _, I2, rfl, q p hp⟩
    have := hd d m
    show X.A.units + 1 + 1 + d.depth < cLine
    omega
  rcases hsrc with hq | hq | ⟨kvs, hq, rfl⟩
  · obtain ⟨its, rv, pl, hz⟩ := I.list hq
    refine wpAny_bind (collect_list (l := a) pl.isList ?_ (by rw [← rv.length]; exact hz))
    refine tail _ s.toks its (fun b o e => ?_) rv hz
    rw [Heap.get?_update_ne _ _ _ _ (Nat.ne_of_lt (Heap.lt_size e))]
    exact Heap.get?_push_of_some _ e
  · obtain ⟨its, rv, pl, hz⟩ := I.tuple hq
    obtain ⟨o, ho, hc', n, hd'⟩ := (show s.heap.IsTuple a its.toArray from pl)
    refine wpAny_bind (wpAny_collect_seq a (.inr rfl) ho hc' hd' (fun h' k => ?_) (by rw [List.size_toArray, ← rv.length]; exact hz))
    exact tail h' s.toks _ k (by simpa using rv) hz
  · obtain ⟨z, lo, vs, rel, dd⟩ := dk_rd I.hok hq
    obtain ⟨ep, hat⟩ := dd.dictAt
    have hl : vs.length = kvs.length := by
      have e := congrArg List.length rel.keys
      rw [List.length_map, List.length_map] at e
      exact e.symm
    refine wpAny_bind (PySem.W.kdu_collect (A := X.A.in1) (PySem.W.kdl_dict (knd := mixKind X.prog X.w) (kvs := vs) (ep := ep) lo) (I.ok.hd hc) hat (by rw [hl]; exact z) fun h' tk acc hk hacc => ?_)
    refine tail h' tk acc.toList hk ?_ (by rw [List.length_map]; exact z)
    refine vals_at (by rw [Array.length_toList, hacc.1, hl, List.length_map]) fun j v w e1 e2 => ?_
    obtain ⟨k, x, e3, e4⟩ := hacc.2 j w (by rw [← Array.getElem?_toList]; exact e2)
    have e5 : (vs.map (·.1))[j]? = some k := by rw [List.getElem?_map, e3]; rfl
    rw [← rel.keys, List.getElem?_map] at e5
    rw [List.getElem?_map] at e1
    cases e6 : kvs[j]? with
    | none => rw [e6] at e5; cases e5
    | some kv =>
      rw [e6] at e5 e1
      cases e5
      cases e1
      show RelV (kV kv.1) w
      rcases keyIs_shape (show keyIs kv.1 w = true from e4) with ⟨i, t, ek, ev⟩ | ⟨y, t, ek, ev⟩
      · rw [ek, ev]; exact ⟨t, rfl⟩
      · rw [ek, ev]; exact ⟨t, rfl⟩
/-! ### its reading -/
theorem sortV_enc {K : PySem.W.Frag} {F : Hp} {xs : List V} {ds : List D} (h : EncL K F xs ds) : EncL K F (sortV xs ds) (sortD ds) := by
  have l1 := h.length
  have hm : (((xs.zip ds).mergeSort (dataLe false (·.2))).map (·.2)) = sortD ds := by
    unfold sortD
    have := List.map_mergeSort (r := dataLe false fun b : V × D => b.2) (s := dataLe false id) (f := fun b : V × D => b.2) (l := xs.zip ds) (fun a _ b _ => rfl)
    rw [zip_map2 l1] at this
    exact this
  have all : ∀ b ∈ xs.zip ds, Enc K F b.1 b.2 := by
    clear hm l1
    induction ds generalizing xs with
    | nil => cases h; intro b hb; cases hb
    | cons d ds ih =>
      cases h with
      | cons h t =>
        intro b hb
        rw [List.zip_cons_cons] at hb
        rcases List.mem_cons.mp hb with rfl | hb
        · exact h
        · exact ih t b hb
  have go : ∀ ps : List (V × D), (∀ b ∈ ps, Enc K F b.1 b.2) → EncL K F (ps.map (·.1)) (ps.map (·.2)) := by
    intro ps
    induction ps with
    | nil => intro _; exact .nil
    | cons p ps ih => intro hp; exact .cons (hp p List.mem_cons_self) (ih fun b hb => hp b (List.mem_cons_of_mem _ hb))
  rw [← hm]
  exact go _ fun b hb => all b (List.mem_mergeSort.mp hb)
def sortG1 (ds : List D) : Option (Bool × D) := if sortB ds && flA ds 60 then some (true, .list (sortD ds)) else none
def sortedG : List D → Option (Bool × D)
  | [.list ds] => sortG1 ds
  | [.tuple ds] => sortG1 ds
  | [.dict ds] => if isDic ds then sortG1 (ds.map (·.1)) else none
  | _ => none
theorem flA_mem : ∀ (ds : List D) (n : Nat), flA ds n = true → ∀ d ∈ ds, flD d n = true
  | [], _, _, _, h => by cases h
  | d :: ds, n, f, e, h => by
    have f' : flD d n = true ∧ flA ds n = true := by simpa [flA] using f
    rcases List.mem_cons.mp h with rfl | h
    · exact f'.1
    · exact flA_mem ds n f'.2 e h
theorem EncK.keysL {K : PySem.W.Frag} {F : Hp} : ∀ {kvs : List (Key × V)} {ds : List (D × D)}, EncK K F kvs ds → EncL K F (kvs.map fun kv => kV kv.1) (ds.map (·.1))
  | _, _, .nil => .nil
  | _, _, .cons k _ t => .cons k (EncK.keysL t)
end
section
variable {G : G0} {T : XT} {W : WX} {k : Nat} {N : List Str} {sc : Scope} {fnc : Str → Bool} {X : Cx}
theorem br_sorted (c : Cok G T W k N sc fnc X) : BltR X T (.builtin "sorted") sortedG := by
  have hu := c.u64
  have hroom := c.room.un
  refine ⟨_, call_sorted c.calm (by omega), ?_⟩
  rw [c.hK]
  intro F H xs ds z Q s rd hg an
  have main : ∀ (a : Addr) (ys : List V) (es : List D), EncL T.K F ys es → (SqL T.K H a ys ∨ SqT T.K H a ys ∨ ∃ kvs : List (Key × V), Rd H a (.dK kvs) ∧ ys = kvs.map fun kv => kV kv.1) → sortG1 es = some z → rSortAll T.K [.ref a] H Q := fun a ys es t src hg => by
    unfold sortG1 at hg
    split at hg
    · rename_i hb
      cases hg
      rw [Bool.and_eq_true] at hb
      have dp := (encL_dp s es 60 t hb.2).1
      refine ⟨a, ys, es, rfl, src, dp, hb.1, fun d m => ?_, fun p hp => Ans.lst s an (sortV_enc t) hp⟩
      have := flD_depth d 60 (flA_mem es 60 hb.2 d m)
      omega
    · cases hg
  unfold sortedG at hg
  split at hg
  · obtain ⟨x, rfl, r⟩ := rd.one
    obtain ⟨a, vs, rfl, h, t⟩ := r.list s
    exact main a vs _ t (.inl (SqL.of h)) hg
  · obtain ⟨x, rfl, r⟩ := rd.one
    obtain ⟨a, vs, rfl, h, t⟩ := r.tuple s
    exact main a vs _ t (.inr (.inl h)) hg
  · split at hg
    · rename_i hd
      obtain ⟨x, rfl, r⟩ := rd.one
      obtain ⟨a, kvs, rfl, h, t⟩ := r.dict s hd
      exact main a _ _ t.keysL (.inr (.inr ⟨kvs, h, rfl⟩)) hg
    · cases hg
  · cases hg
end
end PK
set_option maxHeartbeats 1000000
namespace PK
open PySem PySem.Spec PyProof.Rows L2
/-! ### {..} -/
theorem GoE.chg {K : PySem.W.Frag} {F F2 H H2 : Hp} {σ : St} {ρ ρ2 : En} {p : Addr} {o : HO} (g : GoE K F σ H ρ F2 H2 ρ2) (hp : H p = none) (f2 : F2 p = none) (n2 : ¬ Own σ ρ2 p) : GoE K F σ H ρ F2 (upd H2 p o) ρ2 := by
  refine ⟨⟨fun a u e => ?_, g.rel.len, fun i c e => ?_, g.rel.sep⟩, g.ext, g.new, fun a u e no => ?_, fun a e => ?_, g.own, g.dead⟩
  · rw [upd_ne (fun q => by subst q; rw [f2] at e; cases e)]
    exact g.rel.sub a u e
  · obtain ⟨v, ev, cc⟩ := g.rel.cell i c e
    refine ⟨v, ev, ?_⟩
    cases cc with
    | shr x => exact .shr x
    | @own a u d h1 h2 h3 =>
      refine .own h1 ?_ h3
      rw [upd_ne]
      · exact h2
      · intro q; subst q; exact n2 ⟨i, d, e, ev⟩
  · rw [upd_ne (fun q => by subst q; rw [hp] at e; cases e)]
    exact g.keep a u e no
  · by_cases q : a = p
    · rw [q]; exact hp
    · rw [upd_ne q] at e; exact g.dom a e
inductive EncP (K : PySem.W.Frag) (F : Hp) : List (V × V) → List (D × D) → Prop
  | nil : EncP K F [] []
  | cons {v w : V} {ps : List (V × V)} {d e : D} {ds : List (D × D)} : Enc K F v d → Enc K F w e → EncP K F ps ds → EncP K F ((v, w) :: ps) ((d, e) :: ds)
def prM : List (M (Bool × D) × M (Bool × D)) → M (List (D × D))
  | [] => fun ρ => .ok [] ρ
  | (k, v) :: r => bnd k fun kd => bnd v fun x => bnd (prM r) fun ps ρ => .ok ((kd.2, x.2) :: ps) ρ
def dispM (prs : List (M (Bool × D) × M (Bool × D))) : M (Bool × D) := bnd (prM prs) fun ps ρ => if (ps.all fun p => isKey p.1) && decide (ps.length ≤ 15) then .ok (true, .dict (ps.foldl (fun a p => dput a p.1 p.2) [])) ρ else .stuck
section
variable {G : G0} {T : XT} {W : WX} {k : Nat} {N : List Str} {sc : Scope} {fnc : Str → Bool} {X : Cx} {pos p tpos : Pos} {tg a b e : Expr} {es : List Expr} {na nb nc nk : M (Bool × D)}
def PostPr (T : XT) (W : WX) (F : Hp) (σ : St) (H : Hp) (ρ : En) (r : Res (List (D × D))) (Q : List (V × V) → Hp → Prop) : Prop := match r with
  | .ok ds ρ' => ∀ F' H' ps, GoE T.K F σ H ρ F' H' ρ' → EncP T.K F' ps ds → Q ps H'
  | .err x ρ' => ∀ F' H' c dx, GoE T.K F σ H ρ F' H' ρ' → ExcOk T F' c dx x → W c dx σ H'
  | .stuck => False
theorem PostPr.later {F F1 H H1 : Hp} {σ : St} {ρ ρ1 : En} {r : Res (List (D × D))} {Q : List (V × V) → Hp → Prop} (h : PostPr T W F σ H ρ r Q) (g : GoE T.K F σ H ρ F1 H1 ρ1) : PostPr T W F1 σ H1 ρ1 r Q := by
  cases r with
  | ok a ρ2 => exact fun F2 H2 ps g2 x => h F2 H2 ps (g.trans g2) x
  | err x ρ2 => exact fun F2 H2 c dx g2 x => h F2 H2 c dx (g.trans g2) x
  | stuck => exact h
theorem pairs_read : ∀ (prs : List (M (Bool × D) × M (Bool × D))) {F H : Hp} {σ : St} {ρ : En} {Q : List (V × V) → Hp → Prop}, Rel T.K F σ H ρ → PostPr T W F σ H ρ (prM prs ρ) Q → tPairs (prs.map fun q => (rE T W q.1, rE T W q.2)) σ H Q
  | [], F, H, σ, ρ, Q, rel, h => h F H [] (GoE.refl rel) .nil
  | (mk, mv) :: r, F, H, σ, ρ, Q, rel, h => by
    refine ⟨F, ρ, rel, ?_⟩
    show PostE T W F σ H ρ (mk ρ) _
    unfold prM bnd at h
    cases e : mk ρ with
    | stuck => rw [e] at h; exact h
    | err x ρ1 => rw [e] at h; exact h
    | ok rk ρ1 =>
      rw [e] at h
      obtain ⟨fk, dk⟩ := rk
      intro F1 H1 x g1 vo
      obtain ⟨F2, g2, _, en⟩ := freeze g1 vo
      have h := PostPr.later h g2
      refine ⟨F2, ρ1, g2.rel, ?_⟩
      show PostE T W F2 σ H1 ρ1 (mv ρ1) _
      simp only at h
      cases e1 : mv ρ1 with
      | stuck => rw [e1] at h; exact h
      | err x ρ2 => rw [e1] at h; exact h
      | ok rv ρ2 =>
        rw [e1] at h
        obtain ⟨fv, dv⟩ := rv
        intro F3 H3 y g3 vo3
        obtain ⟨F4, g4, _, en4⟩ := freeze g3 vo3
        have h := PostPr.later h g4
        refine pairs_read r g4.rel ?_
        simp only at h
        cases e2 : prM r ρ2 with
        | stuck => rw [e2] at h; exact h
        | err x ρ3 => rw [e2] at h; exact h
        | ok ps ρ3 =>
          rw [e2] at h
          exact fun F5 H5 qs g5 ep => h F5 H5 _ g5 (.cons (en.ext (g4.ext.trans g5.ext)) (en4.ext g5.ext) ep)
theorem encP_keys {K : PySem.W.Frag} {F : Hp} : ∀ {ps : List (V × V)} {ds : List (D × D)}, EncP K F ps ds → (ds.all fun p => isKey p.1) = true → ∃ kvs : List (Key × V), ps = kvs.map (fun kv => (kV kv.1, kv.2)) ∧ EncK K F kvs ds
  | _, _, .nil, _ => ⟨[], rfl, .nil⟩
  | _, _, .cons (d := d) h1 h2 t, hk => by
    rw [List.all_cons, Bool.and_eq_true] at hk
    obtain ⟨kk, rfl⟩ := isKey_D hk.1
    obtain ⟨kvs, rfl, t'⟩ := encP_keys t hk.2
    have := key_V (H := F) (.enc h1)
    subst this
    exact ⟨(kk, _) :: kvs, rfl, .cons h1 h2 t'⟩
theorem encK_merge {K : PySem.W.Frag} {F : Hp} : ∀ {more : List (Key × V)} {ds : List (D × D)} {kvs : List (Key × V)} {es : List (D × D)}, EncK K F more ds → EncK K F kvs es → EncK K F (mergeK kvs more) (ds.foldl (fun a p => dput a p.1 p.2) es)
  | _, _, _, _, .nil, h => h
  | _, _, _, _, .cons k v t, h => by
    unfold mergeK
    rw [List.foldl_cons, List.foldl_cons]
    exact encK_merge t (h.put k v)
theorem disp_read {prs : List (M (Bool × D) × M (Bool × D))} {σ : St} {H : Hp} {Q : VK} (h : rE T W (dispM prs) σ H Q) : tDisp (prs.map fun q => (rE T W q.1, rE T W q.2)) σ H Q := by
  obtain ⟨F, ρ, rel, h⟩ := h
  intro p hp
  have g0 := Al.goE rel (Al.one (o := .dK []) rel.sub hp)
  refine pairs_read prs g0.rel ?_
  unfold dispM bnd at h
  cases e : prM prs ρ with
  | stuck => rw [e] at h; exact h
  | err x ρ1 => rw [e] at h; exact fun F1 H1 c dx g ex => h F1 H1 c dx (g0.trans g) ex
  | ok ds ρ1 =>
    rw [e] at h
    intro F1 H1 ps g1 ep
    simp only at h
    split at h
    case isFalse => exact h.elim
    rename_i hk
    rw [Bool.and_eq_true, decide_eq_true_eq] at hk
    obtain ⟨kvs, rfl, ek⟩ := encP_keys ep hk.1
    have f0 := none_of_sub rel.sub hp
    have no : ∀ {F2 H2 : Hp} {ρ2 : En}, GoE T.K F σ H ρ F2 H2 ρ2 → ¬ Own σ ρ2 p := fun g q => by
      obtain ⟨_, o, z⟩ := rel.ownIn (g.ownSub q)
      rw [hp] at z; cases z
    have no0 := no (GoE.refl rel)
    have hp1 : H1 p = some (.dK []) := g1.keep p _ upd_same no0
    have f1 : F1 p = none := by
      cases z : F1 p with
      | none => rfl
      | some o =>
        rcases g1.new p f0 (by rw [z]; simp) with y | y
        · rw [upd_same] at y; cases y
        · exact absurd y no0
    refine ⟨hp1, kvs, rfl, by rw [ek.length]; exact hk.2, ?_⟩
    have n1 := no (g0.trans g1)
    exact h _ _ _ ((g0.trans g1).chg hp f1 n1) (.own f1 upd_same (.dic (encK_merge ek .nil)) (.inl hp) n1)
theorem e_dict0 : PE X (.Dict [] [] pos) (rE T W (fun ρ => .ok (true, .dict []) ρ)) := PE.mono pe_dnewK fun σ H Q ⟨F, ρ, rel, h⟩ p hp => (PostE.ans h rel).dic rel.sub .nil hp
theorem e_disp {keys : List (Option Expr)} {values : List Expr} {prs : List (M (Bool × D) × M (Bool × D))} (h : PPs X pos keys values (prs.map fun q => (rE T W q.1, rE T W q.2))) (hall : keys.all (·.isSome) = true) (hl : keys.length = values.length) (h0 : keys ≠ []) (h15 : keys.length ≤ 15) :
    PE X (.Dict keys values pos) (rE T W (dispM prs)) := PE.mono (pe_disp h hall hl h0 h15) fun _ _ _ => disp_read
end
end PK
set_option maxHeartbeats 1000000
namespace PK
open PySem PySem.Spec PyProof.Rows L2
/-! ### a comprehension over a name: a list, a tuple, a text, or a dict (locked) -/
theorem GoE.unlock {K : PySem.W.Frag} {F H F' H' : Hp} {a : Addr} {kvs : List (Key × V)} {σ : St} {ρ ρ' : En} {od : Obj} (hF : F a = some (.dK kvs)) (r : Rel K F σ H ρ) (g : GoE K (upd F a (.frz od (.dK kvs))) σ (upd H a (.frz od (.dK kvs))) ρ F' H' ρ') :
    H' a = some (.frz od (.dK kvs)) ∧ F' a = some (.frz od (.dK kvs)) ∧ GoE K F σ H ρ (upd F' a (.dK kvs)) (upd H' a (.dK kvs)) ρ' := by
  obtain ⟨h1, h2, h3⟩ := Go.unlock (pr := fun _ => false) hF r g.go
  exact ⟨h1, h2, ⟨h3.rel, h3.ext, h3.new, h3.keep, h3.dom, g.own, g.dead⟩⟩
def lcN (vs : List Nat) (i : Nat) (g : PM) (tt : M Bool) (te : M (Bool × D)) : M (Bool × D) := fun ρ => match ρ.getD i none with
  | some (_, .dict ds) => if isDic ds then (match lcL vs g tt te (ds.map (·.1)) (wipeE (frz1 ρ i) vs) with
    | .ok xs ρ' => if xs.length ≤ LIM then .ok (true, .list xs) (backE (frz1 ρ i) ρ' vs) else .stuck
    | _ => .stuck) else .stuck
  | _ => lcM vs (itM (rV i)) g tt te ρ
def dcN (vs : List Nat) (i : Nat) (g : PM) (tt : M Bool) (tk te : M (Bool × D)) : M (Bool × D) := fun ρ => match ρ.getD i none with
  | some (_, .dict ds) => if isDic ds then (match dcL vs g tt tk te [] (ds.map (·.1)) (wipeE (frz1 ρ i) vs) with
    | .ok xs ρ' => .ok (true, .dict xs) (backE (frz1 ρ i) ρ' vs)
    | _ => .stuck) else .stuck
  | _ => dcM vs (itM (rV i)) g tt tk te ρ
section
variable {G : G0} {T : XT} {W : WX} {k : Nat} {N : List Str} {sc : Scope} {fnc : Str → Bool} {X : Cx} {pos p tpos : Pos} {tg a b e elt kx vx : Expr} {es elts ifs : List Expr} {kk : Nat} {na nb nc nk : M (Bool × D)} {tc : M Bool} {scope : Scope} {own : List (Str × Nat)}
theorem lcN_read {i : Nat} {g : PM} {vs : List Nat} {σ : St} {H : Hp} {Q : VK} (h : rE T W (lcN vs i g tc na) σ H Q) :
    tLc (rI T W (itM (rV i))) (rG (T.blk vs) g) (rT (T.blk vs) WF tc) (rE (T.blk vs) WF na) vs σ H Q ∨ tLc (iKeys (tVar i)) (rG (T.blk vs) g) (rT (T.blk vs) WF tc) (rE (T.blk vs) WF na) vs σ H Q ∨ tLockE (tLc (iKeys (tVar i)) (rG (T.blk vs) g) (rT (T.blk vs) WF tc) (rE (T.blk vs) WF na) vs) σ H Q := by
  obtain ⟨F, ρ, rel, h⟩ := h
  unfold lcN at h
  split at h
  · rename_i fl ds e
    split at h
    case isFalse => exact h.elim
    rename_i hds
    obtain ⟨F1, v, ev, g1, en⟩ := frz1_step rel e
    have h := PostE.later h g1
    cases e1 : lcL vs g tc na (ds.map (·.1)) (wipeE (frz1 ρ i) vs) with
    | stuck => rw [e1] at h; exact h.elim
    | err x ρ' => rw [e1] at h; exact h.elim
    | ok xs ρ' =>
      rw [e1] at h
      simp only at h
      split at h
      case isFalse => exact h.elim
      rename_i hx
      cases en with
      | scr _ => cases hds
      | @dic a kvs _ hr t =>
        rcases hr with hr | ⟨od, hr⟩
        · refine .inr (.inr ⟨a, .dK kvs, g1.rel.sub _ _ hr, trivial, fun od => ?_⟩)
          have r2 := g1.rel.swap hr (.inl rfl) (o2 := .frz od (.dK kvs)) (.inr ⟨_, rfl⟩)
          refine ⟨_, ev, a, od, rfl, .inl ⟨kvs, upd_same, fun D0 hD => lc_turns (Q := fun v H' => H' a = some (.frz od (.dK kvs)) ∧ Q v (upd H' a (.dK kvs))) r2 (JOk.keys upd_same (t.swap hr (.inl rfl) (.inr ⟨_, rfl⟩))) hD e1 hx fun F' H' vacc g2 f2 d2 en2 => ?_⟩⟩
          obtain ⟨u1, u2, u3⟩ := GoE.unlock hr g1.rel g2
          have ne : D0 ≠ a := fun q => by subst q; rw [upd_same] at hD; cases hD
          refine ⟨u1, h _ _ _ u3 (.own (by rw [upd_ne ne]; exact f2) (by rw [upd_ne ne]; exact d2) (.lst (en2.swap u2 (.inr ⟨_, rfl⟩) (.inl rfl))) (.inl (by rw [upd_ne ne] at hD; exact hD)) fun q => ?_)⟩
          obtain ⟨_, o, z⟩ := g1.rel.ownIn (u3.ownSub q)
          rw [upd_ne ne] at hD
          rw [hD] at z; cases z
        · refine .inr (.inl ⟨_, ev, a, od, rfl, .inl ⟨kvs, g1.rel.sub _ _ hr, fun D0 hD => lc_turns (Q := Q) g1.rel (JOk.keys hr t) hD e1 hx fun F' H' vacc g2 f2 d2 en2 => ?_⟩⟩)
          refine h _ _ _ g2 (.own f2 d2 (.lst en2) (.inl hD) fun q => ?_)
          obtain ⟨_, o, z⟩ := g1.rel.ownIn (g2.ownSub q)
          rw [hD] at z; cases z
  · exact .inl (lc_read ⟨F, ρ, rel, h⟩)
theorem dcN_read {i : Nat} {g : PM} {vs : List Nat} {σ : St} {H : Hp} {Q : VK} (h : rE T W (dcN vs i g tc nk na) σ H Q) :
    tDc (rI T W (itM (rV i))) (rG (T.blk vs) g) (rT (T.blk vs) WF tc) (rE (T.blk vs) WF nk) (rE (T.blk vs) WF na) vs σ H Q ∨ tDc (iKeys (tVar i)) (rG (T.blk vs) g) (rT (T.blk vs) WF tc) (rE (T.blk vs) WF nk) (rE (T.blk vs) WF na) vs σ H Q ∨ tLockE (tDc (iKeys (tVar i)) (rG (T.blk vs) g) (rT (T.blk vs) WF tc) (rE (T.blk vs) WF nk) (rE (T.blk vs) WF na) vs) σ H Q := by
  obtain ⟨F, ρ, rel, h⟩ := h
  unfold dcN at h
  split at h
  · rename_i fl ds e
    split at h
    case isFalse => exact h.elim
    rename_i hds
    obtain ⟨F1, v, ev, g1, en⟩ := frz1_step rel e
    have h := PostE.later h g1
    cases e1 : dcL vs g tc nk na [] (ds.map (·.1)) (wipeE (frz1 ρ i) vs) with
    | stuck => rw [e1] at h; exact h.elim
    | err x ρ' => rw [e1] at h; exact h.elim
    | ok xs ρ' =>
      rw [e1] at h
      simp only at h
      cases en with
      | scr _ => cases hds
      | @dic a kvs _ hr t =>
        rcases hr with hr | ⟨od, hr⟩
        · refine .inr (.inr ⟨a, .dK kvs, g1.rel.sub _ _ hr, trivial, fun od => ?_⟩)
          have r2 := g1.rel.swap hr (.inl rfl) (o2 := .frz od (.dK kvs)) (.inr ⟨_, rfl⟩)
          refine ⟨_, ev, a, od, rfl, .inl ⟨kvs, upd_same, fun D0 hD => dc_turns (Q := fun v H' => H' a = some (.frz od (.dK kvs)) ∧ Q v (upd H' a (.dK kvs))) r2 (JOk.keys upd_same (t.swap hr (.inl rfl) (.inr ⟨_, rfl⟩))) hD e1 fun F' H' vacc g2 f2 d2 en2 => ?_⟩⟩
          obtain ⟨u1, u2, u3⟩ := GoE.unlock hr g1.rel g2
          have ne : D0 ≠ a := fun q => by subst q; rw [upd_same] at hD; cases hD
          refine ⟨u1, h _ _ _ u3 (.own (by rw [upd_ne ne]; exact f2) (by rw [upd_ne ne]; exact d2) (.dic (en2.swap u2 (.inr ⟨_, rfl⟩) (.inl rfl))) (.inl (by rw [upd_ne ne] at hD; exact hD)) fun q => ?_)⟩
          obtain ⟨_, o, z⟩ := g1.rel.ownIn (u3.ownSub q)
          rw [upd_ne ne] at hD
          rw [hD] at z; cases z
        · refine .inr (.inl ⟨_, ev, a, od, rfl, .inl ⟨kvs, g1.rel.sub _ _ hr, fun D0 hD => dc_turns (Q := Q) g1.rel (JOk.keys hr t) hD e1 fun F' H' vacc g2 f2 d2 en2 => ?_⟩⟩)
          refine h _ _ _ g2 (.own f2 d2 (.dic en2) (.inl hD) fun q => ?_)
          obtain ⟨_, o, z⟩ := g1.rel.ownIn (g2.ownSub q)
          rw [hD] at z; cases z
  · exact .inl (dc_read ⟨F, ρ, rel, h⟩)
section
variable {i : Nat} {x : Str} {g : PM}
theorem PE.or3 {X : Cx} {e : Expr} {t t' : TE} (h : PE X e t) (h' : PE X e t') : PE X e (fun σ H Q => t σ H Q ∨ t' σ H Q ∨ tLockE t' σ H Q) := ⟨fun pins s σ H Q I q => by
  rcases q with q | q | q
  · exact h.run pins s σ H Q I q
  · exact h'.run pins s σ H Q I q
  · exact (pe_lock h').run pins s σ H Q I q⟩
theorem PS.or3 {X : Cx} {e : Stmt} {t t' : TS} (h : PS X e t) (h' : PS X e t') : PS X e (fun D σ H => t D σ H ∨ t' D σ H ∨ tLock t' D σ H) := ⟨fun pins s σ H Q I q => by
  rcases q with q | q | q
  · exact h.run pins s σ H Q I q
  · exact h'.run pins s σ H Q I q
  · exact (ps_lock h').run pins s σ H Q I q⟩
theorem e_lcN (c : Cok G T W k N sc fnc X) (hi : N[i]? = some x) (hv : visB sc x = true) (ok : blkC N sc scope own = true)
    (hb : ∀ X', Cok G (T.blk (own.map (·.2))) WF k N (relS scope sc) (fun x => scope.names.lookup x == some .cell) X' → PG X' tg (rG (T.blk (own.map (·.2))) g) ∧ PTs X' ifs (rT (T.blk (own.map (·.2))) WF tc) ∧ PE X' elt (rE (T.blk (own.map (·.2))) WF na))
    (hd : (x == ("__debug__" : Str)) = false := by decide) (hcd : (x == ("__classdict__" : Str)) = false := by decide) : PE X (.ListComp elt [⟨tg, .Name x p, ifs, 0⟩] scope pos) (rE T W (lcN (own.map (·.2)) i g tc na)) := by
  have key := fun {it : Expr} {wi : TI} (hp : PI X tg it wi) (hs : ∀ x, foldedSetIterable it X.env x = pure x) => pe_lc (pos := pos) c.calm (by rw [c.hN]; exact c.nd) hp (blkOk_by (by rw [c.hN, c.hs]; exact ok)) (fun s H C cl fp => (hb _ (c.blk scope _ s H C cl fp)).1) (fun s H C cl fp => (hb _ (c.blk scope _ s H C cl fp)).2.1) (fun s H C cl fp => (hb _ (c.blk scope _ s H C cl fp)).2.2) hs
  exact PE.mono (PE.or3 (key (i_val (tg := tg) c (e_var (W := W) (T := T) (pos := p) c hi hv hd hcd)) (fun _ => rfl)) (key (pi_keys (tg := tg) (pe_var (pos := p) (i := i) (by rw [c.hN]; exact hi) (by rw [c.hs]; exact vis_of hv) hd hcd)) (fun _ => rfl))) fun _ _ _ => lcN_read
theorem e_dcN (c : Cok G T W k N sc fnc X) (hi : N[i]? = some x) (hv : visB sc x = true) (ok : blkC N sc scope own = true)
    (hb : ∀ X', Cok G (T.blk (own.map (·.2))) WF k N (relS scope sc) (fun x => scope.names.lookup x == some .cell) X' → PG X' tg (rG (T.blk (own.map (·.2))) g) ∧ PTs X' ifs (rT (T.blk (own.map (·.2))) WF tc) ∧ PE X' kx (rE (T.blk (own.map (·.2))) WF nk) ∧ PE X' vx (rE (T.blk (own.map (·.2))) WF na))
    (hd : (x == ("__debug__" : Str)) = false := by decide) (hcd : (x == ("__classdict__" : Str)) = false := by decide) : PE X (.DictComp kx vx [⟨tg, .Name x p, ifs, 0⟩] scope pos) (rE T W (dcN (own.map (·.2)) i g tc nk na)) := by
  have key := fun {it : Expr} {wi : TI} (hp : PI X tg it wi) (hs : ∀ x, foldedSetIterable it X.env x = pure x) => pe_dc (pos := pos) c.calm (by rw [c.hN]; exact c.nd) hp (blkOk_by (by rw [c.hN, c.hs]; exact ok)) (fun s H C cl fp => (hb _ (c.blk scope _ s H C cl fp)).1) (fun s H C cl fp => (hb _ (c.blk scope _ s H C cl fp)).2.1) (fun s H C cl fp => (hb _ (c.blk scope _ s H C cl fp)).2.2.1) (fun s H C cl fp => (hb _ (c.blk scope _ s H C cl fp)).2.2.2) hs
  exact PE.mono (PE.or3 (key (i_val (tg := tg) c (e_var (W := W) (T := T) (pos := p) c hi hv hd hcd)) (fun _ => rfl)) (key (pi_keys (tg := tg) (pe_var (pos := p) (i := i) (by rw [c.hN]; exact hi) (by rw [c.hs]; exact vis_of hv) hd hcd)) (fun _ => rfl))) fun _ _ _ => dcN_read
theorem s_setLcN {l : Nat} {y : Str} {px spos : Pos} (c : Cok G T W k N sc fnc X) (hy : N[l]? = some y) (hsw : swB sc scope y px.line pos.line = true) (hi : N[i]? = some x) (hv : visB sc x = true) (ok : blkC N sc scope own = true)
    (hb : ∀ X', Cok G (T.blk (own.map (·.2))) WF k N (relS scope sc) (fun x => scope.names.lookup x == some .cell) X' → PG X' tg (rG (T.blk (own.map (·.2))) g) ∧ PTs X' ifs (rT (T.blk (own.map (·.2))) WF tc) ∧ PE X' elt (rE (T.blk (own.map (·.2))) WF na))
    (hd : (x == ("__debug__" : Str)) = false := by decide) (hcd : (x == ("__classdict__" : Str)) = false := by decide) : PS X (.Assign [.Name y px] (.ListComp elt [⟨tg, .Name x p, ifs, 0⟩] scope pos) spos) (rS T W (asgM T.pr l (lcN (own.map (·.2)) i g tc na))) := by
  rw [← c.hs] at hsw
  have q := sw_of (value := .ListComp elt [⟨tg, .Name x p, ifs, 0⟩] scope pos) (l := spos.line) (.inl ⟨_, _, _, rfl⟩) hsw
  have key := fun {wi : TI} (hp : PI X tg (.Name x p) wi) => ps_setLc (spos := spos) (pos := pos) c.calm (by rw [c.hN]; exact c.nd) (by rw [c.hN]; exact hy) q.2 q.1 hp (blkOk_by (by rw [c.hN, c.hs]; exact ok)) (fun s H C cl fp => (hb _ (c.blk scope _ s H C cl fp)).1) (fun s H C cl fp => (hb _ (c.blk scope _ s H C cl fp)).2.1) (fun s H C cl fp => (hb _ (c.blk scope _ s H C cl fp)).2.2) (fun _ => rfl)
  exact PS.mono (PS.or3 (key (i_val (tg := tg) c (e_var (W := W) (T := T) (pos := p) c hi hv hd hcd))) (key (pi_keys (tg := tg) (pe_var (pos := p) (i := i) (by rw [c.hN]; exact hi) (by rw [c.hs]; exact vis_of hv) hd hcd)))) fun D0 σ H h => lcN_read (asg_read h)
theorem s_setDcN {l : Nat} {y : Str} {px spos : Pos} (c : Cok G T W k N sc fnc X) (hy : N[l]? = some y) (hsw : swB sc scope y px.line pos.line = true) (hi : N[i]? = some x) (hv : visB sc x = true) (ok : blkC N sc scope own = true)
    (hb : ∀ X', Cok G (T.blk (own.map (·.2))) WF k N (relS scope sc) (fun x => scope.names.lookup x == some .cell) X' → PG X' tg (rG (T.blk (own.map (·.2))) g) ∧ PTs X' ifs (rT (T.blk (own.map (·.2))) WF tc) ∧ PE X' kx (rE (T.blk (own.map (·.2))) WF nk) ∧ PE X' vx (rE (T.blk (own.map (·.2))) WF na))
    (hd : (x == ("__debug__" : Str)) = false := by decide) (hcd : (x == ("__classdict__" : Str)) = false := by decide) : PS X (.Assign [.Name y px] (.DictComp kx vx [⟨tg, .Name x p, ifs, 0⟩] scope pos) spos) (rS T W (asgM T.pr l (dcN (own.map (·.2)) i g tc nk na))) := by
  rw [← c.hs] at hsw
  have q := sw_of (value := .DictComp kx vx [⟨tg, .Name x p, ifs, 0⟩] scope pos) (l := spos.line) (.inr ⟨_, _, _, _, rfl⟩) hsw
  have key := fun {wi : TI} (hp : PI X tg (.Name x p) wi) => ps_setDc (spos := spos) (pos := pos) c.calm (by rw [c.hN]; exact c.nd) (by rw [c.hN]; exact hy) q.2 q.1 hp (blkOk_by (by rw [c.hN, c.hs]; exact ok)) (fun s H C cl fp => (hb _ (c.blk scope _ s H C cl fp)).1) (fun s H C cl fp => (hb _ (c.blk scope _ s H C cl fp)).2.1) (fun s H C cl fp => (hb _ (c.blk scope _ s H C cl fp)).2.2.1) (fun s H C cl fp => (hb _ (c.blk scope _ s H C cl fp)).2.2.2) (fun _ => rfl)
  exact PS.mono (PS.or3 (key (i_val (tg := tg) c (e_var (W := W) (T := T) (pos := p) c hi hv hd hcd))) (key (pi_keys (tg := tg) (pe_var (pos := p) (i := i) (by rw [c.hN]; exact hi) (by rw [c.hs]; exact vis_of hv) hd hcd)))) fun D0 σ H h => dcN_read (asg_read h)
end
end
end PK
set_option maxHeartbeats 1000000
namespace PK
open PySem PySem.Spec PyProof.Rows L2
section
variable {G : G0} {T : XT} {W : WX} {k : Nat} {N : List Str} {sc : Scope} {fnc : Str → Bool} {X : Cx} {pos p tpos : Pos} {e : Expr} {na : M (Bool × D)}
theorem env_sc (c : Cok G T W k N sc fnc X) : { X.env with scope := sc } = X.env := by
  have h := c.hs
  revert h
  generalize X.env = ev
  intro h
  subst h
  rfl
theorem swp (c : Cok G T W k N sc fnc X) {ts : List Expr} {v : Expr} {r : Option (List Str)} (h : swappedStores ts v { X.env with scope := sc } = pure r) : swappedStores ts v X.env = pure r := by
  rw [env_sc c] at h
  exact h
theorem s_asgC {i : Nat} {x : Str} {pos' : Pos} (c : Cok G T W k N sc fnc X) (hi : N[i]? = some x) (hx : stoB sc fnc x = true) (he : PE X e (rE T W na)) (hsw : swapsWith e (some (.Name x pos')) pos.line { X.env with scope := sc } = pure false) : PS X (.Assign [.Name x pos'] e pos) (rS T W (asgM T.pr i na)) := by
  rw [env_sc c] at hsw
  exact PS.mono (ps_set (i := i) (by rw [c.hN]; exact c.nd) (by rw [c.hN]; exact hi) (by rw [c.hs]; exact sto_loc hx) he hsw (by rw [c.hs, c.hfn]; exact sto_fn hx)) fun _ _ _ => asg_read
theorem ExcCls.pr {x : Str} {C : Addr} (h : ExcCls G T x C) (p : Nat → Bool) : ExcCls G { T with pr := p } x C := ⟨h.ex, h.gC, h.kC, h.sub, h.ty⟩
theorem CatOk.pr {c : Value} {cat : Exc → Option Bool} (h : CatOk T c cat) (p : Nat → Bool) : CatOk { T with pr := p } c cat := fun F cls d x b e q => h F cls d x b e.unpr q
theorem names_of {x : Str} {C : Addr} (c : Cok G T W k N sc fnc X) (E : ExcCls G T x C) (hg : sc.names.lookup x = some .globalImplicit) (hd : (x == ("__debug__" : Str)) = false := by decide) : Names X x (.ref C) :=
  ⟨show X.env.scope.names.lookup x = _ by rw [c.hs]; exact hg, hd, .inl (by rw [c.hm]; exact E.gC)⟩
def prF (mp : Option Nat) : Nat → Bool := fun i => decide (mp = some i)
/-- a def of the text -/
structure Def1 (G : G0) (T : XT) (x : Str) (st : Stmt) (ps : List Str) : Prop where
  ex : ∃ (fA : Addr) (fd : FuncData), G.mg x = some (.ref fA) ∧ PySem.W.keepIn T.K (.ref fA) = true ∧ Binds T.K fd ps [] ∧ Fun T.K x x st fA fd
theorem fn_zero {x : Str} {st : Stmt} {ps : List Str} {mp : Option Nat} (d : Def1 G T x st ps) : FnIn G T 0 x ps.length mp fun _ => .stuck := by
  obtain ⟨fA, fd, h1, h2, h3, h4⟩ := d.ex
  refine ⟨fA, fd, ps, h1, h2, h3, ⟨fun vs H Q E h => ?_, fun A outer s H args us vs Q E hr he hb hv h => ?_⟩⟩
  · obtain ⟨_, _, _, h, _⟩ := h
    exact h
  · obtain ⟨_, _, _, _, _, h⟩ := h
    exact h.elim
theorem fn_succ {n : Nat} {x : Str} {st : Stmt} {N ps : List Str} {mp : Option Nat} {body : M Out} (d : Def1 G T x st ps) (S : FnScope N ps (defScope st))
    (hbody : ∀ (W : WX) (X : Cx), Cok G (T.fn mp) W n N (defScope st) fnT X → Sok X W → PSs X (defBody st) (rS (T.fn mp) W body)) : FnIn G T (n + 1) x ps.length mp (fnM mp N.length body) := by
  obtain ⟨fA, fd, h1, h2, h3, h4⟩ := d.ex
  exact ⟨fA, fd, ps, h1, h2, h3, fn_ok h4 S hbody⟩
/-- the law's own promise -/
def spLaw (K : PySem.W.Frag) : Sp := fun vs H Q _ => ∃ (a : Addr) (ns : List Int), vs = [.ref a] ∧ SqL K H a (ns.map V.int) ∧ ns.length ≤ 63 ∧ ∀ H', Q (.bl true) H'
theorem law_sp {f : List D → FRes} (hp : ∀ ns : List Int, ns.length ≤ 63 → ∃ fl m, f [scrD ns] = .ok fl (.bool true) m) (vs : List V) (H : Hp) (Q : VK) (E : XK) (h : spLaw T.K vs H Q E) : SpF T 1 none f vs H Q E := by
  obtain ⟨a, ns, rfl, hS, hl, q⟩ := h
  obtain ⟨fl, m, e⟩ := hp ns hl
  refine ⟨H, [scrD ns], Ext.refl H, rfl, .cons (.shr (.scr hS)) .nil, ?_⟩
  rw [e]
  intro F' H' v g x _
  cases x with
  | shr x => cases x; exact q H'
  | own _ _ t => cases t
end
end PK
namespace PK
open PySem PySem.Spec PyProof.Rows L2
theorem exm_gen {K : PySem.W.Frag} {A C : Addr} {b : Bool} (h1 : PySem.W.subIn K (.ref C) (.type "BaseException") = some true) (h2 : PySem.W.isClsIn K C = true) (h3 : PySem.W.typeIn K (.ref C) = some (.type "type")) (h4 : PySem.W.subIn K (.ref A) (.ref C) = some b) :
    PySem.W.exmOne K (.ref A) (.ref C) = some b := by
  have e1 : (PySem.W.subIn K (.ref C) (.type "BaseException") == some true) = true := by rw [h1] <;> rfl
  have e2 : ((PySem.W.clsIn K C).isSome && PySem.W.typeIn K (.ref C) == some (.type "type")) = true := by
    have h2' : (PySem.W.clsIn K C).isSome = true := h2
    rw [h2', h3] <;> rfl
  show (if (PySem.W.subIn K (.ref C) (.type "BaseException") == some true) = true then (if ((PySem.W.clsIn K C).isSome && PySem.W.typeIn K (.ref C) == some (.type "type")) = true then PySem.W.subIn K (.ref A) (.ref C) else none) else none) = some b
  rw [if_pos e1, if_pos e2]
  exact h4
theorem exc_cls {G : G0} {T : XT} {K : PySem.W.Frag} {h : Heap} {x : Str} {C : Addr} (eK : T.K = K) (X : K.In h) (N : h.Ns mainGlobals G.mg) (a : PySem.W.nsIn K mainGlobals x = some (some (.ref C)))
    (q : PySem.W.excIn K C [.type "ValueError", .type "Exception", .type "BaseException", .type "object"] "ValueError.__new__" = true) (k : PySem.W.keepIn K (.ref C) = true) (b : PySem.W.subIn K (.ref C) (.type "BaseException") = some true) (t : PySem.W.typeIn K (.ref C) = some (.type "type")) : ExcCls G T x C :=
  ⟨⟨_, _, _, _, PySem.F.excBase_ValueError, by rw [eK]; exact q⟩, PySem.W.mg_of X N a, by rw [eK]; exact k, by rw [eK]; exact b, by rw [eK]; exact t⟩
theorem def1 {G : G0} {T : XT} {K : PySem.W.Frag} {h : Heap} {x : Str} {st : Stmt} {ps : List Str} {f : Addr} {oc : Value} {od an : Option Addr} {osl : Array (Option Value)} {kV doc pm cdv ct : Value} (eK : T.K = K) (X : K.In h) (N : h.Ns mainGlobals G.mg) (a : PySem.W.nsIn K mainGlobals x = some (some (.ref f)))
    (l : K.lookup f = some ⟨oc, od, .func (PySem.W.fnOf x x (defArgs st) (defBody st) (defScope st) .none kV doc pm an cdv ct), osl⟩) (c : PySem.W.codeIn K cdv x = true) (k : PySem.W.keepIn K (.ref f) = true)
    (hb : ∀ (kV doc pm : Value) (an : Option Addr) (cdv ct : Value) (us : List Value), us.length = ps.length → bindArgs (PySem.W.fnOf x x (defArgs st) (defBody st) (defScope st) .none kV doc pm an cdv ct) ⟨us, []⟩ = pure (ps.zip us)) : Def1 G T x st ps := by
  have F := fun_mk (st := st) l c k
  rw [← eK] at F k
  exact ⟨f, _, PySem.W.mg_of X N a, k, F.binds hb, F⟩
end PK
namespace PK
open PySem PySem.Spec PyProof.Rows L2
theorem fn_law {G : G0} {T : XT} {n : Nat} {x : Str} {st : Stmt} {N ps : List Str} {mp : Option Nat} {body : M Out} {f : Addr} {oc : Value} {od an : Option Addr} {osl : Array (Option Value)} {kV doc pm cdv ct : Value}
    (l : T.K.lookup f = some ⟨oc, od, .func (PySem.W.fnOf x x (defArgs st) (defBody st) (defScope st) .none kV doc pm an cdv ct), osl⟩) (c : PySem.W.codeIn T.K cdv x = true) (k : PySem.W.keepIn T.K (.ref f) = true) (S : FnScope N ps (defScope st))
    (hbody : ∀ (W : WX) (X : Cx), Cok G (T.fn mp) W n N (defScope st) fnT X → Sok X W → PSs X (defBody st) (rS (T.fn mp) W body)) :
    FnOk G.P G.w T.K G.mg G.base (L2.CX G.P G.w) (n + 1) f (PySem.W.fnOf x x (defArgs st) (defBody st) (defScope st) .none kV doc pm an cdv ct) ps (SpF T ps.length mp (fnM mp N.length body)) := fn_ok (fun_mk (st := st) l c k) S hbody
end PK
set_option maxHeartbeats 4000000
namespace PK
open PySem PySem.Spec PyProof.Rows L2
/-! ### reckoning with denotations -/
theorem loop_rule {g : PM} {body : M Out} (P : List D → En → Prop) (Q : Res Out → Prop) (h0 : ∀ ρ, P [] ρ → Q (.ok .nxt ρ))
    (hs : ∀ d ds ρ, P (d :: ds) ρ → ∃ ρ1, g d ρ = some ρ1 ∧ match body ρ1 with
      | .ok .nxt ρ2 => P ds ρ2
      | .ok .cnt ρ2 => P ds ρ2
      | .ok .brk ρ2 => Q (.ok .nxt ρ2)
      | .ok (.ret fl d) ρ2 => Q (.ok (.ret fl d) ρ2)
      | .err x ρ2 => Q (.err x ρ2)
      | .stuck => False) : ∀ {ds : List D} {ρ : En}, P ds ρ → Q (loopL g body ds ρ)
  | [], ρ, h => h0 ρ h
  | d :: ds, ρ, h => by
    obtain ⟨ρ1, e, hb⟩ := hs d ds ρ h
    unfold loopL
    rw [e]
    simp only
    cases eb : body ρ1 with
    | stuck => rw [eb] at hb; exact hb.elim
    | err x ρ2 => rw [eb] at hb; exact hb
    | ok o ρ2 =>
      rw [eb] at hb
      cases o with
      | nxt => exact loop_rule P Q h0 hs hb
      | cnt => exact loop_rule P Q h0 hs hb
      | brk => exact hb
      | ret fl d => exact hb
/-- what is wanted of a run -/
def Post (r : Res Out) (Q : Res Out → Prop) : Prop := Q r
section
variable {a b : M Out} {ρ ρ1 : En} {Q : Res Out → Prop} {c : M Bool} {t : Bool} {fl : Bool} {d : D} {x : Exc}
theorem go_nxt (h : a ρ = .ok .nxt ρ1) (k : Post (b ρ1) Q) : Post (seqM a b ρ) Q := by
  unfold seqM bnd Post; rw [h]; exact k
theorem go_ret (h : a ρ = .ok (.ret fl d) ρ1) (k : Q (.ok (.ret fl d) ρ1)) : Post (seqM a b ρ) Q := by
  unfold seqM bnd Post; rw [h]; exact k
theorem go_err (h : a ρ = .err x ρ1) (k : Q (.err x ρ1)) : Post (seqM a b ρ) Q := by
  unfold seqM bnd Post; rw [h]; exact k
/-- the first statement, by its own wish -/
theorem go_seq (h : Post (a ρ) fun r => match r with
    | .ok .nxt ρ' => Post (b ρ') Q
    | .stuck => False
    | r => Q r) : Post (seqM a b ρ) Q := by
  unfold seqM bnd
  unfold Post at h ⊢
  cases e : a ρ with
  | stuck => rw [e] at h; exact h.elim
  | err x ρ' => rw [e] at h; exact h
  | ok o ρ' =>
    rw [e] at h
    cases o <;> exact h
theorem go_if (h : c ρ = .ok t ρ1) (k1 : t = true → Post (a ρ1) Q) (k2 : t = false → Post (b ρ1) Q) : Post (ifM c a b ρ) Q := by
  unfold ifM bnd Post
  rw [h]
  cases t with
  | true => exact k1 rfl
  | false => exact k2 rfl
theorem go_end {r : Res Out} (h : a ρ = r) (k : Q r) : Post (a ρ) Q := by
  unfold Post; rw [h]; exact k
theorem go_for {ml : M (List D)} {g : PM} {ds : List D} (h : ml ρ = .ok ds ρ1) (k : Post (loopL g a ds ρ1) Q) : Post (forM ml g a ρ) Q := by
  unfold forM bnd Post; rw [h]; exact k
end
section
variable {ρ ρ1 ρ2 ρ3 : En} {a b : M Tok} {t u : Tok} {x y : D} {r : Bool × D} {m : M (Bool × D)} {pr : Nat → Bool} {i : Nat} {ms : M (List Tok)} {ts : List Tok} {ds : List D} {fl : Bool} {d dm : D} {mo : Option D} {C : List D → FRes} {ml : M (List D)}
theorem op2_ok {g : D → D → Option (Bool × D)} (ha : a ρ = .ok t ρ1) (hb : b ρ1 = .ok u ρ2) (hx : rsv ρ2 t = some x) (hy : rsv ρ2 u = some y) (hg : g x y = some r) : op2 a b g ρ = .ok r ρ2 := by
  unfold op2 bnd; rw [ha]; simp only; rw [hb]; simp only [hx, hy, Option.bind_some, hg, ans]
theorem op1_ok {g : D → Option (Bool × D)} (ha : a ρ = .ok t ρ1) (hx : rsv ρ1 t = some x) (hg : g x = some r) : op1 a g ρ = .ok r ρ1 := by
  unfold op1 bnd; rw [ha]; simp only [hx, Option.bind_some, hg, ans]
theorem opN_ok {g : List D → Option (Bool × D)} (ha : ms ρ = .ok ts ρ1) (hx : ts.mapM (rsv ρ1) = some ds) (hg : g ds = some r) : opN ms g ρ = .ok r ρ1 := by
  unfold opN bnd; rw [ha]; simp only [hx, Option.bind_some, hg, ans]
theorem oE_ok (h : m ρ = .ok r ρ1) : oE m ρ = .ok (.val r.2) ρ1 := by
  unfold oE bnd; rw [h]
theorem asg_ok (h : m ρ = .ok r ρ1) (hp : pr i = false) : asgM pr i m ρ = .ok .nxt (ρ1.set i (some r)) := by
  unfold asgM bnd; rw [hp, if_neg (by decide), h]
theorem ret_ok (h : m ρ = .ok r ρ1) : retM m ρ = .ok (.ret r.1 r.2) ρ1 := by
  unfold retM bnd; rw [h]
theorem expr_ok (h : m ρ = .ok r ρ1) : exprM m ρ = .ok .nxt ρ1 := by
  unfold exprM bnd; rw [h]
theorem tst_ok {bb : Bool} (h : m ρ = .ok (false, .bool bb) ρ1) : tstB m ρ = .ok bb ρ1 := by
  unfold tstB bnd; rw [h]
theorem tstO_ok {bb : Bool} (ha : a ρ = .ok t ρ1) (hx : rsv ρ1 t = some x) (hg : tru x = some bb) : tstO a ρ = .ok bb ρ1 := by
  unfold tstO bnd; rw [ha]; simp only [hx, Option.bind_some, hg]
theorem aCons_ok (ha : a ρ = .ok t ρ1) (hb : ms ρ1 = .ok ts ρ2) : aCons a ms ρ = .ok (t :: ts) ρ2 := by
  unfold aCons bnd; rw [ha]; simp only; rw [hb]
theorem lCons_ok (ha : m ρ = .ok r ρ1) (hb : ml ρ1 = .ok ds ρ2) : lCons m ml ρ = .ok (r.2 :: ds) ρ2 := by
  unfold lCons bnd; rw [ha]; simp only; rw [hb]
theorem set_ok {mb : M Tok} {d0 d1 kd d' : D} (h : m ρ = .ok r ρ1) (h0 : ownD ρ1 i = some d0) (hb : mb ρ1 = .ok t ρ2) (h1 : ownD ρ2 i = some d1) (hk : rsv ρ2 t = some kd) (hs : setG d1 kd r.2 = some d') : setM i mb m ρ = .ok .nxt (ρ2.set i (some (true, d'))) := by
  unfold setM bnd; rw [h]; simp only [h0, hb, h1, hk, hs, Option.bind_some]
theorem call_ok (h1 : ms ρ = .ok ts ρ1) (h2 : ts.mapM (rsv ρ1) = some ds) (h3 : C ds = .ok fl d mo) (hn : noMut d = true) : callM C none ms ρ = .ok (fl, d) ρ1 := by
  unfold callM bnd; rw [h1]; simp only [h2, h3, hn, if_true]
theorem callF_ok (h1 : ms ρ = .ok ts ρ1) (h2 : ts.mapM (rsv ρ1) = some ds) (h3 : C ds = .ok fl d mo) : callM C none ms ρ = .ok (fl, d) (if noMut d then ρ1 else frzA none 0 ts ρ1) := by
  unfold callM bnd; rw [h1]; simp only [h2, h3]
  split <;> rfl
theorem callE_ok {x : Exc} (h1 : ms ρ = .ok ts ρ1) (h2 : ts.mapM (rsv ρ1) = some ds) (h3 : C ds = .err x) : callM C none ms ρ = .err x (frzA none 0 ts ρ1) := by
  unfold callM bnd; rw [h1]; simp only [h2, h3]
theorem callM_ok {q : Nat} (h1 : ms ρ = .ok ts ρ1) (h2 : ts.mapM (rsv ρ1) = some ds) (hm : mutSlot (some q) ts = some i) (ho : (isOwn ρ1 i && !usesSlot (some q) i 0 ts) = true) (h3 : C ds = .ok fl d (some dm)) : callM C (some q) ms ρ = .ok (fl, d) ((frzA (some q) 0 ts ρ1).set i (some (true, dm))) := by
  unfold callM bnd; rw [h1]; simp only [h2, hm, ho, h3, if_true]
end
/-- the draws' state -/
def stD (ns : List Int) (pos cell left : Int) (big : Bool) : D := .list [.list (ns.map .int), .int pos, .int cell, .int left, .bool big, .int 500]
def drawM : M Out :=
    seqM (ifM (tstB (op2 (oE (op2 (oV 0) (oE (cst (.int 3))) idxG)) (oE (cst (.int 0))) eqG)) (seqM (ifM (tstB (op2 (oE (op2 (oV 0) (oE (cst (.int 1))) idxG)) (oE (opN (aCons (oE (op2 (oV 0) (oE (cst (.int 0))) idxG)) (aNil)) lenG)) geG)) (retM (cst (.int 0))) nilM) <|
    seqM (asgM (prF (some 0)) 3 (op2 (oE (op2 (oV 0) (oE (cst (.int 0))) idxG)) (oE (op2 (oV 0) (oE (cst (.int 1))) idxG)) idxG)) <|
    seqM (ifM (tstB (op2 (oV 3) (oE (cst (.int 0))) ltG)) (asgM (prF (some 0)) 3 (op2 (oE (op1 (oE (cst (.int 1))) negG)) (oV 3) subG)) nilM) <|
    seqM (setM 0 (oE (cst (.int 1))) (op2 (oE (op2 (oV 0) (oE (cst (.int 1))) idxG)) (oE (cst (.int 1))) addG)) <|
    seqM (setM 0 (oE (cst (.int 2))) (rV 3)) <|
    seqM (setM 0 (oE (cst (.int 4))) (op2 (oV 3) (oE (op2 (oE (cst (.int 10))) (oE (cst (.int 18))) powG)) geG)) <|
    seqM (setM 0 (oE (cst (.int 3))) (cst (.int 6))) <|
    ifM (tstO (oE (op2 (oV 0) (oE (cst (.int 4))) idxG))) (setM 0 (oE (cst (.int 3))) (cst (.int 60))) nilM) nilM) <|
    seqM (setM 0 (oE (cst (.int 3))) (op2 (oE (op2 (oV 0) (oE (cst (.int 3))) idxG)) (oE (cst (.int 1))) subG)) <|
    seqM (ifM (tstO (oE (op2 (oV 0) (oE (cst (.int 4))) idxG))) (seqM (asgM (prF (some 0)) 4 (op2 (oE (opN (aCons (oE (op2 (oV 0) (oE (cst (.int 2))) idxG)) (aNil)) intG)) (oV 1) modG)) <|
    seqM (setM 0 (oE (cst (.int 2))) (op2 (oE (op2 (oV 0) (oE (cst (.int 2))) idxG)) (oV 1) fdivG)) <|
    seqM (ifM (tstB (op2 (oE (op2 (oV 0) (oE (cst (.int 2))) idxG)) (oE (cst (.int 0))) eqG)) (setM 0 (oE (cst (.int 3))) (cst (.int 0))) nilM) <|
    retM (mV 4)) nilM) <|
    seqM (asgM (prF (some 0)) 2 (op2 (oE (opN (aCons (oE (op2 (oE (op2 (oE (op2 (oE (op2 (oV 0) (oE (cst (.int 2))) idxG)) (oE (cst (.int 48271))) mulG)) (oE (op2 (oE (op2 (oV 0) (oE (cst (.int 3))) idxG)) (oE (cst (.int 69621))) mulG)) addG)) (oE (cst (.int 7))) addG)) (aNil)) intG)) (oE (cst (.int 2147483647))) modG)) <|
    seqM (asgM (prF (some 0)) 2 (op2 (oE (opN (aCons (oE (op2 (oE (op2 (oE (op2 (oV 2) (oV 2) mulG)) (oE (op2 (oE (op2 (oV 0) (oE (cst (.int 2))) idxG)) (oE (cst (.int 31))) mulG)) addG)) (oE (op2 (oV 0) (oE (cst (.int 3))) idxG)) addG)) (aNil)) intG)) (oE (cst (.int 1000003))) modG)) <|
    retM (op2 (oE (opN (aCons (oV 2) (aNil)) intG)) (oV 1) modG)
theorem pow_ok {i j : Int} (h : 0 ≤ j ∧ j ≤ 1000000 ∧ i.natAbs < 2 ^ 64) : powG (.int i) (.int j) = some (false, .int (i ^ j.toNat)) := if_pos h
theorem pow18 : powG (.int 10) (.int 18) = some (false, .int (10 ^ 18)) := pow_ok (by decide)
theorem mod_ok {a b : Int} (h : 0 < b) : modG (.int a) (.int b) = some (false, .int (a % b)) := if_pos h
theorem mod_pos {a b : Int} (h : 0 < b) : 0 ≤ a % b ∧ a % b < b := ⟨Int.emod_nonneg _ (by omega), Int.emod_lt_of_pos _ h⟩
/-- the last of the draws' lines: both ways -/
def drawT : M Out :=
    seqM (setM 0 (oE (cst (.int 3))) (op2 (oE (op2 (oV 0) (oE (cst (.int 3))) idxG)) (oE (cst (.int 1))) subG)) <|
    seqM (ifM (tstO (oE (op2 (oV 0) (oE (cst (.int 4))) idxG))) (seqM (asgM (prF (some 0)) 4 (op2 (oE (opN (aCons (oE (op2 (oV 0) (oE (cst (.int 2))) idxG)) (aNil)) intG)) (oV 1) modG)) <|
    seqM (setM 0 (oE (cst (.int 2))) (op2 (oE (op2 (oV 0) (oE (cst (.int 2))) idxG)) (oV 1) fdivG)) <|
    seqM (ifM (tstB (op2 (oE (op2 (oV 0) (oE (cst (.int 2))) idxG)) (oE (cst (.int 0))) eqG)) (setM 0 (oE (cst (.int 3))) (cst (.int 0))) nilM) <|
    retM (mV 4)) nilM) <|
    seqM (asgM (prF (some 0)) 2 (op2 (oE (opN (aCons (oE (op2 (oE (op2 (oE (op2 (oE (op2 (oV 0) (oE (cst (.int 2))) idxG)) (oE (cst (.int 48271))) mulG)) (oE (op2 (oE (op2 (oV 0) (oE (cst (.int 3))) idxG)) (oE (cst (.int 69621))) mulG)) addG)) (oE (cst (.int 7))) addG)) (aNil)) intG)) (oE (cst (.int 2147483647))) modG)) <|
    seqM (asgM (prF (some 0)) 2 (op2 (oE (opN (aCons (oE (op2 (oE (op2 (oE (op2 (oV 2) (oV 2) mulG)) (oE (op2 (oE (op2 (oV 0) (oE (cst (.int 2))) idxG)) (oE (cst (.int 31))) mulG)) addG)) (oE (op2 (oV 0) (oE (cst (.int 3))) idxG)) addG)) (aNil)) intG)) (oE (cst (.int 1000003))) modG)) <|
    retM (op2 (oE (opN (aCons (oV 2) (aNil)) intG)) (oV 1) modG)
def DrawQ (ns : List Int) (limit : Int) (r : Res Out) : Prop := ∃ i pos cell left big c2 c3 c4 l, 0 ≤ i ∧ i < limit ∧ 0 ≤ pos ∧ r = .ok (.ret false (.int i)) [some (true, stD ns pos cell left big), l, c2, c3, c4]
theorem draw_tail {ns : List Int} {pos cell left limit : Int} {big : Bool} {c3 : Ce} (hp : 0 ≤ pos) (hl : 0 < limit) (hm : limit < 1073741824) :
    Post (drawT [some (true, stD ns pos cell left big), some (false, .int limit), none, c3, none]) (DrawQ ns limit) := by
  unfold drawT
  refine go_nxt (ρ1 := [some (true, stD ns pos cell (left - 1) big), some (false, .int limit), none, c3, none]) rfl ?_
  refine go_seq (go_if (t := big) (ρ1 := [some (true, stD ns pos cell (left - 1) big), some (false, .int limit), none, c3, none]) rfl (fun hb => ?_) fun hb => ?_)
  · refine go_nxt (asg_ok (op2_ok rfl rfl rfl rfl (x := .int cell) (y := .int limit) (r := (false, .int (cell % limit))) (if_pos hl)) rfl) ?_
    refine go_nxt (set_ok (op2_ok rfl rfl rfl rfl (x := .int cell) (y := .int limit) (r := (false, .int (cell / limit))) (if_pos ⟨hl, hm⟩)) rfl rfl rfl rfl rfl) ?_
    have hq := mod_pos (a := cell) hl
    refine go_seq (go_if (t := PyData.eqv (.int (cell / limit)) (.int 0)) (ρ1 := [some (true, stD ns pos (cell / limit) (left - 1) big), some (false, .int limit), none, c3, some (false, .int (cell % limit))]) rfl (fun _ => ?_) fun _ => ?_)
    · exact go_end (r := .ok .nxt [some (true, stD ns pos (cell / limit) 0 big), some (false, .int limit), none, c3, some (false, .int (cell % limit))]) rfl (go_end rfl ⟨_, pos, cell / limit, 0, big, none, c3, _, _, hq.1, hq.2, hp, rfl⟩)
    · exact go_end (r := .ok .nxt [some (true, stD ns pos (cell / limit) (left - 1) big), some (false, .int limit), none, c3, some (false, .int (cell % limit))]) rfl (go_end rfl ⟨_, pos, cell / limit, left - 1, big, none, c3, _, _, hq.1, hq.2, hp, rfl⟩)
  · refine go_end (r := .ok .nxt [some (true, stD ns pos cell (left - 1) big), some (false, .int limit), none, c3, none]) rfl ?_
    have m1 : ∀ i : Int, mulG (.int i) (.int 48271) = some (false, .int (i * 48271)) := fun i => if_pos (.inr (by decide))
    have m2 : ∀ i : Int, mulG (.int i) (.int 69621) = some (false, .int (i * 69621)) := fun i => if_pos (.inr (by decide))
    have m3 : ∀ i : Int, mulG (.int i) (.int 31) = some (false, .int (i * 31)) := fun i => if_pos (.inr (by decide))
    let z := cell * 48271 + (left - 1) * 69621 + 7
    refine go_nxt (asg_ok (op2_ok (oE_ok (opN_ok (aCons_ok (oE_ok (op2_ok (oE_ok (op2_ok (oE_ok (op2_ok rfl rfl rfl rfl (m1 cell))) (oE_ok (op2_ok rfl rfl rfl rfl (m2 (left - 1)))) rfl rfl rfl)) rfl rfl rfl rfl)) rfl) rfl rfl)) rfl rfl rfl (mod_ok (a := z) (b := 2147483647) (by decide))) rfl) ?_
    have hz := mod_pos (a := z) (b := 2147483647) (by decide)
    have m4 : mulG (.int (z % 2147483647)) (.int (z % 2147483647)) = some (false, .int (z % 2147483647 * (z % 2147483647))) := if_pos (.inl (by omega))
    let y := z % 2147483647 * (z % 2147483647) + cell * 31 + (left - 1)
    refine go_nxt (asg_ok (op2_ok (oE_ok (opN_ok (aCons_ok (oE_ok (op2_ok (oE_ok (op2_ok (oE_ok (op2_ok rfl rfl rfl rfl m4)) (oE_ok (op2_ok rfl rfl rfl rfl (m3 cell))) rfl rfl rfl)) rfl rfl rfl rfl)) rfl) rfl rfl)) rfl rfl rfl (mod_ok (a := y) (b := 1000003) (by decide))) rfl) ?_
    have hq := mod_pos (a := y % 1000003) hl
    exact go_end (ret_ok (op2_ok rfl rfl rfl rfl (x := .int (y % 1000003)) (y := .int limit) (r := (false, .int (y % 1000003 % limit))) (if_pos hl))) ⟨_, pos, cell, left - 1, big, _, c3, _, _, hq.1, hq.2, hp, rfl⟩
theorem go_mono {r : Res Out} {Q Q' : Res Out → Prop} (h : Post r Q) (k : ∀ r, Q r → Q' r) : Post r Q' := k r h
theorem atI_nn {α : Type} {xs : List α} {i : Int} {x : α} (h : atI xs i = some x) : True := trivial
theorem draw_ok {ns : List Int} {pos cell left limit : Int} {big : Bool} (hp : 0 ≤ pos) (hl : 0 < limit) (hm : limit < 1073741824) :
    ∃ i pos' cell' left' big', 0 ≤ i ∧ i < limit ∧ 0 ≤ pos' ∧ fnM (some 0) 5 drawM [stD ns pos cell left big, .int limit] = .ok false (.int i) (some (stD ns pos' cell' left' big')) := by
  have key : Post (drawM [some (true, stD ns pos cell left big), some (false, .int limit), none, none, none]) (DrawQ ns limit) := by
    unfold drawM
    refine go_seq (go_if (t := PyData.eqv (.int left) (.int 0)) (ρ1 := [some (true, stD ns pos cell left big), some (false, .int limit), none, none, none]) rfl (fun _ => ?_) fun _ => ?_)
    · refine go_seq (go_if (t := decide ((ns.map PyData.int).length ≤ pos)) (ρ1 := [some (true, stD ns pos cell left big), some (false, .int limit), none, none, none]) rfl (fun _ => ?_) fun hb => ?_)
      · exact go_end (r := .ok (.ret false (.int 0)) [some (true, stD ns pos cell left big), some (false, .int limit), none, none, none]) rfl ⟨_, _, _, _, _, _, _, _, _, Int.le_refl 0, hl, hp, rfl⟩
      · refine go_end (r := .ok .nxt [some (true, stD ns pos cell left big), some (false, .int limit), none, none, none]) rfl ?_
        have hb := of_decide_eq_false hb
        rw [List.length_map] at hb
        have hlt : pos.toNat < ns.length := by omega
        have hx : idxG (.list (ns.map .int)) (.int pos) = some (false, .int ns[pos.toNat]) := by
          show (atI (ns.map PyData.int) pos).map _ = _
          unfold atI ixN
          rw [if_pos hp, List.length_map, if_pos (by omega), Option.bind_some, List.getElem?_map, List.getElem?_eq_getElem hlt]
          rfl
        generalize ns[pos.toNat] = c at hx
        refine go_nxt (asg_ok (op2_ok (oE_ok (op2_ok rfl rfl rfl rfl (x := stD ns pos cell left big) (r := (false, .list (ns.map .int))) rfl)) (oE_ok (op2_ok rfl rfl rfl rfl (x := stD ns pos cell left big) (r := (false, .int pos)) rfl)) rfl rfl hx) rfl) ?_
        have fin : ∀ c' : Int, Post (seqM (setM 0 (oE (cst (.int 1))) (op2 (oE (op2 (oV 0) (oE (cst (.int 1))) idxG)) (oE (cst (.int 1))) addG)) (seqM (setM 0 (oE (cst (.int 2))) (rV 3)) <|
            seqM (setM 0 (oE (cst (.int 4))) (op2 (oV 3) (oE (op2 (oE (cst (.int 10))) (oE (cst (.int 18))) powG)) geG)) <|
            seqM (setM 0 (oE (cst (.int 3))) (cst (.int 6))) <|
            ifM (tstO (oE (op2 (oV 0) (oE (cst (.int 4))) idxG))) (setM 0 (oE (cst (.int 3))) (cst (.int 60))) nilM) [some (true, stD ns pos cell left big), some (false, .int limit), none, some (false, .int c'), none])
            (fun r => match r with
              | .ok .nxt ρ' => Post (drawT ρ') (DrawQ ns limit)
              | .stuck => False
              | r => DrawQ ns limit r) := fun c' => by
          refine go_nxt (ρ1 := [some (true, stD ns (pos + 1) cell left big), some (false, .int limit), none, some (false, .int c'), none]) rfl ?_
          refine go_nxt (ρ1 := [some (true, stD ns (pos + 1) c' left big), some (false, .int limit), none, some (false, .int c'), none]) rfl ?_
          refine go_nxt (set_ok (op2_ok rfl (oE_ok (op2_ok rfl rfl rfl rfl pow18)) rfl rfl (x := .int c') (y := .int (10 ^ 18)) (r := (false, .bool (decide (10 ^ 18 ≤ c')))) rfl) rfl rfl rfl rfl (d' := stD ns (pos + 1) c' left (decide (10 ^ 18 ≤ c'))) rfl) ?_
          refine go_nxt (ρ1 := [some (true, stD ns (pos + 1) c' 6 (decide (10 ^ 18 ≤ c'))), some (false, .int limit), none, some (false, .int c'), none]) rfl ?_
          refine go_if (t := decide (10 ^ 18 ≤ c')) (ρ1 := [some (true, stD ns (pos + 1) c' 6 (decide (10 ^ 18 ≤ c'))), some (false, .int limit), none, some (false, .int c'), none]) rfl (fun _ => ?_) fun _ => ?_
          · exact go_end (r := .ok .nxt [some (true, stD ns (pos + 1) c' 60 (decide (10 ^ 18 ≤ c'))), some (false, .int limit), none, some (false, .int c'), none]) rfl (draw_tail (by omega) hl hm)
          · exact go_end (r := .ok .nxt [some (true, stD ns (pos + 1) c' 6 (decide (10 ^ 18 ≤ c'))), some (false, .int limit), none, some (false, .int c'), none]) rfl (draw_tail (by omega) hl hm)
        refine go_seq (go_if (t := decide (c < 0)) (ρ1 := [some (true, stD ns pos cell left big), some (false, .int limit), none, some (false, .int c), none]) rfl (fun _ => ?_) fun _ => ?_)
        · exact go_end (r := .ok .nxt [some (true, stD ns pos cell left big), some (false, .int limit), none, some (false, .int (-1 - c)), none]) rfl (fin (-1 - c))
        · exact go_end (r := .ok .nxt [some (true, stD ns pos cell left big), some (false, .int limit), none, some (false, .int c), none]) rfl (fin c)
    · exact go_end (r := .ok .nxt [some (true, stD ns pos cell left big), some (false, .int limit), none, none, none]) rfl (draw_tail hp hl hm)
  obtain ⟨i, pos', cell', left', big', c2, c3, c4, l, h1, h2, h3, h4⟩ := key
  refine ⟨i, pos', cell', left', big', h1, h2, h3, ?_⟩
  show endF (some 0) (drawM [some (true, stD ns pos cell left big), some (false, .int limit), none, none, none]) = _
  rw [h4]
  rfl
end PK
set_option maxHeartbeats 1000000
namespace PK
open PySem PySem.Spec PyProof.Rows L2
/-! ### dicts from texts to whole numbers -/
def encA (A : List (Str × Int)) : D := .dict (A.map fun p => (.str p.1, .int p.2))
def mkA (ns : List Str) (f : Str → Int) : List (Str × Int) := ns.map fun n => (n, f n)
def strL (ns : List Str) : List D := ns.map .str
theorem isDic_enc (A : List (Str × Int)) : isDic (A.map fun p => ((.str p.1 : D), (.int p.2 : D))) = true := by cases A <;> rfl
theorem dlook_enc (n : Str) : ∀ A : List (Str × Int), dlook (A.map fun p => ((.str p.1 : D), (.int p.2 : D))) (.str n) = (A.lookup n).map .int
  | [] => rfl
  | (o, x) :: r => by
    rw [List.map_cons, List.lookup_cons]
    show (if decide (o = n) = true then some (PyData.int x) else _) = _
    by_cases e : o = n
    · subst e
      rw [if_pos (decide_eq_true rfl), beq_self_eq_true]; rfl
    · rw [if_neg (by simpa using e), beq_false_of_ne (fun z => e z.symm), dlook_enc n r]
theorem dhas_enc (n : Str) : ∀ A : List (Str × Int), dhas (A.map fun p => ((.str p.1 : D), (.int p.2 : D))) (.str n) = decide (n ∈ A.map (·.1))
  | [] => rfl
  | (o, x) :: r => by
    have ih := dhas_enc n r
    unfold dhas at ih ⊢
    rw [List.map_cons, List.any_cons, ih, List.map_cons]
    show (decide (o = n) || _) = _
    by_cases e : o = n
    · subst e; simp
    · rw [decide_eq_false e]
      simp [Ne.symm e]
theorem look_mk {ns : List Str} {f : Str → Int} {n : Str} (h : n ∈ ns) : (mkA ns f).lookup n = some (f n) := by
  induction ns with
  | nil => cases h
  | cons o r ih =>
    show ((o, f o) :: mkA r f).lookup n = _
    rw [List.lookup_cons]
    by_cases e : n = o
    · subst e; rw [beq_self_eq_true]
    · rw [beq_false_of_ne e]
      exact ih ((List.mem_cons.mp h).resolve_left e)
theorem mk_keys (ns : List Str) (f : Str → Int) : (mkA ns f).map (·.1) = ns := by
  unfold mkA; rw [List.map_map]; exact List.map_id ns
theorem idx_enc {A : List (Str × Int)} {n : Str} {v : Int} (h : A.lookup n = some v) : idxG (encA A) (.str n) = some (false, .int v) := by
  unfold encA
  rw [idxG_dict, if_pos (by rw [isDic_enc]; rfl), dlook_enc, h]; rfl
theorem idx_mk {ns : List Str} {f : Str → Int} {n : Str} (h : n ∈ ns) : idxG (encA (mkA ns f)) (.str n) = some (false, .int (f n)) := idx_enc (look_mk h)
theorem in_enc (A : List (Str × Int)) (n : Str) : inG (.str n) (encA A) = some (false, .bool (decide (n ∈ A.map (·.1)))) := by
  show (if (true && isDic (A.map fun p => ((.str p.1 : D), (.int p.2 : D)))) = true then some (false, PyData.bool (dhas _ (.str n))) else none) = _
  rw [isDic_enc, Bool.and_self, if_pos rfl, dhas_enc]
theorem dict_enc (A : List (Str × Int)) : dictG [encA A] = some (true, encA A) := by
  show (if isDic (A.map fun p => ((.str p.1 : D), (.int p.2 : D))) = true then some (true, encA A) else none) = _
  rw [isDic_enc, if_pos rfl]
theorem dput_new {A : List (Str × Int)} {n : Str} {v : Int} (h : n ∉ A.map (·.1)) : dput (A.map fun p => ((.str p.1 : D), (.int p.2 : D))) (.str n) (.int v) = (A ++ [(n, v)]).map fun p => ((.str p.1 : D), (.int p.2 : D)) := by
  unfold dput
  rw [dhas_enc, decide_eq_false h, if_neg (by decide), List.map_append]; rfl
def asetA (A : List (Str × Int)) (n : Str) (v : Int) : List (Str × Int) := A.map fun p => if p.1 = n then (p.1, v) else p
theorem dput_old {A : List (Str × Int)} {n : Str} {v : Int} (h : n ∈ A.map (·.1)) : dput (A.map fun p => ((.str p.1 : D), (.int p.2 : D))) (.str n) (.int v) = (asetA A n v).map fun p => ((.str p.1 : D), (.int p.2 : D)) := by
  unfold dput asetA
  rw [dhas_enc, decide_eq_true h, if_pos rfl, List.map_map, List.map_map]
  apply List.map_congr_left
  intro p _
  show (if decide (p.1 = n) = true then _ else _) = (fun q : Str × Int => ((.str q.1 : D), (.int q.2 : D))) (if p.1 = n then (p.1, v) else p)
  by_cases e : p.1 = n
  · rw [if_pos (decide_eq_true e), if_pos e]
  · rw [if_neg (by simpa using e), if_neg e]
theorem set_new {A : List (Str × Int)} {n : Str} {v : Int} (h : n ∉ A.map (·.1)) (hl : A.length < LIM) : setG (encA A) (.str n) (.int v) = some (encA (A ++ [(n, v)])) := by
  unfold encA
  show (if (true && decide ((A.map fun p => ((.str p.1 : D), (.int p.2 : D))).length < LIM)) = true then some (PyData.dict (dput _ (.str n) (.int v))) else none) = _
  rw [List.length_map, decide_eq_true hl, Bool.and_self, if_pos rfl, dput_new h]
theorem set_old {A : List (Str × Int)} {n : Str} {v : Int} (h : n ∈ A.map (·.1)) (hl : A.length < LIM) : setG (encA A) (.str n) (.int v) = some (encA (asetA A n v)) := by
  unfold encA
  show (if (true && decide ((A.map fun p => ((.str p.1 : D), (.int p.2 : D))).length < LIM)) = true then some (PyData.dict (dput _ (.str n) (.int v))) else none) = _
  rw [List.length_map, decide_eq_true hl, Bool.and_self, if_pos rfl, dput_old h]
theorem flK_enc (A : List (Str × Int)) : flK (A.map fun p => ((.str p.1 : D), (.int p.2 : D))) = true := by
  unfold flK
  rw [isDic_enc, Bool.true_and, List.all_map, List.all_eq_true]
  intro p _; rfl
theorem look_mem : ∀ {A : List (Str × Int)} {p : Str × Int}, (A.map (·.1)).Nodup → p ∈ A → A.lookup p.1 = some p.2
  | (o, x) :: r, p, h, hm => by
    rw [List.map_cons, List.nodup_cons] at h
    rw [List.lookup_cons]
    rcases List.mem_cons.mp hm with rfl | hm
    · rw [beq_self_eq_true]
    · rw [beq_false_of_ne (fun e => h.1 (List.mem_map.mpr ⟨p, hm, e⟩))]
      exact look_mem h.2 hm
theorem eqK_self {A : List (Str × Int)} (h : (A.map (·.1)).Nodup) : eqK (A.map fun p => ((.str p.1 : D), (.int p.2 : D))) (A.map fun p => ((.str p.1 : D), (.int p.2 : D))) = true := by
  unfold eqK
  rw [beq_self_eq_true, Bool.true_and, List.all_map, List.all_eq_true]
  intro p hp
  show (match dlook (A.map fun p => ((.str p.1 : D), (.int p.2 : D))) (.str p.1) with | some e => PyData.eqv (.int p.2) e | none => false) = true
  rw [dlook_enc, look_mem h hp]
  show decide (p.2 = p.2) = true
  simp
theorem eq_self {A : List (Str × Int)} (h : (A.map (·.1)).Nodup) : eqG (encA A) (encA A) = some (false, .bool true) := by
  show (if (flK (A.map fun p => ((.str p.1 : D), (.int p.2 : D))) && flK (A.map fun p => ((.str p.1 : D), (.int p.2 : D)))) = true then some (false, PyData.bool (eqK _ _)) else none) = _
  rw [flK_enc, Bool.and_self, if_pos rfl, eqK_self h]
theorem ne_self {A : List (Str × Int)} (h : (A.map (·.1)).Nodup) : neG (encA A) (encA A) = some (false, .bool false) := by
  unfold neG; rw [eq_self h]; rfl
/-! ### sorted texts -/
def SortN (ns : List Str) : Prop := ns.Pairwise fun a b => PySem.W.dataLe false id (PyData.str a) (PyData.str b) = true
theorem alike_strs (ns : List Str) : sortB (strL ns) = true := by
  unfold sortB strL
  rw [Bool.and_eq_true, Bool.or_eq_true]
  refine ⟨?_, .inr ?_⟩
  · rw [List.all_map, List.all_eq_true]
    intro a _
    show (List.map PyData.str ns).all (fun e => PySem.W.alike (.str a) e) = true
    rw [List.all_map, List.all_eq_true]
    intro b _; rfl
  · rw [List.all_map, List.all_eq_true]
    intro a _; rfl
theorem fl_strs : ∀ (ns : List Str) (n : Nat), flA (strL ns) n = true
  | [], _ => rfl
  | x :: r, n => by
    show (flD (.str x) n && flA (strL r) n) = true
    rw [fl_strs r]; rfl
theorem sorted_strs {ns : List Str} (h : SortN ns) : sortG1 (strL ns) = some (true, .list (strL ns)) := by
  unfold sortG1
  rw [alike_strs, fl_strs, Bool.and_self, if_pos rfl]
  unfold sortD
  rw [List.mergeSort_of_pairwise]
  unfold strL
  exact List.pairwise_map.mpr h
theorem sorted_enc {A : List (Str × Int)} (h : SortN (A.map (·.1))) : sortedG [encA A] = some (true, .list (strL (A.map (·.1)))) := by
  show (if isDic (A.map fun p => ((.str p.1 : D), (.int p.2 : D))) = true then sortG1 ((A.map fun p => ((.str p.1 : D), (.int p.2 : D))).map (·.1)) else none) = _
  rw [isDic_enc, if_pos rfl, List.map_map]
  have : A.map ((fun x : D × D => x.1) ∘ fun p : Str × Int => ((.str p.1 : D), (.int p.2 : D))) = strL (A.map (·.1)) := by
    unfold strL; rw [List.map_map]; rfl
  rw [this, sorted_strs h]
/-! ### comprehensions that leave the slots -/
theorem lcL_pure {vs : List Nat} {g : PM} {tt : M Bool} {te : M (Bool × D)} {ρ0 : En} {p : D → Bool} {v : D → D} : ∀ {ds : List D}, (∀ d ∈ ds, ∃ ρ1 ρ2 fl, g d ρ0 = some ρ1 ∧ tt ρ1 = .ok (p d) ρ1 ∧ (p d = true → te ρ1 = .ok (fl, v d) ρ2 ∧ wipeE ρ2 vs = ρ0) ∧ (p d = false → wipeE ρ1 vs = ρ0)) →
    lcL vs g tt te ds ρ0 = .ok ((ds.filter p).map v) ρ0
  | [], _ => rfl
  | d :: ds, h => by
    obtain ⟨ρ1, ρ2, fl, e1, e2, e3, e4⟩ := h d List.mem_cons_self
    have ih := lcL_pure (te := te) (tt := tt) (g := g) (v := v) fun d' hd => h d' (List.mem_cons_of_mem _ hd)
    unfold lcL
    rw [e1]
    simp only
    rw [e2]
    cases e : p d with
    | true =>
      obtain ⟨e5, e6⟩ := e3 e
      simp only [e5, e6, ih]
      rw [List.filter_cons, if_pos e, List.map_cons]
    | false =>
      simp only [e4 e, ih]
      rw [List.filter_cons, if_neg (by rw [e]; decide)]
theorem dput_len (ds : List (D × D)) (k v : D) : (dput ds k v).length ≤ ds.length + 1 := by
  unfold dput
  split
  · rw [List.length_map]; omega
  · rw [List.length_append]; exact Nat.le_refl _
theorem dcL_pure {vs : List Nat} {g : PM} {tt : M Bool} {tk te : M (Bool × D)} {ρ0 : En} {p : D → Bool} {k v : D → D} : ∀ {ds : List D} {acc : List (D × D)}, acc.length + ds.length ≤ LIM → (∀ d ∈ ds, ∃ ρ1 fl1 fl2, g d ρ0 = some ρ1 ∧ tt ρ1 = .ok (p d) ρ1 ∧ wipeE ρ1 vs = ρ0 ∧ (p d = true → tk ρ1 = .ok (fl1, k d) ρ1 ∧ te ρ1 = .ok (fl2, v d) ρ1 ∧ isKey (k d) = true)) →
    dcL vs g tt tk te acc ds ρ0 = .ok ((ds.filter p).foldl (fun a d => dput a (k d) (v d)) acc) ρ0
  | [], _, _, _ => rfl
  | d :: ds, acc, hl, h => by
    obtain ⟨ρ1, fl1, fl2, e1, e2, e3, e4⟩ := h d List.mem_cons_self
    rw [List.length_cons] at hl
    unfold dcL
    rw [e1]
    simp only
    rw [e2]
    cases e : p d with
    | true =>
      obtain ⟨e5, e6, e7⟩ := e4 e
      simp only [e5, e6, e7, e3]
      rw [if_pos (by simp; omega), dcL_pure (by have := dput_len acc (k d) (v d); omega) fun d' hd => h d' (List.mem_cons_of_mem _ hd), List.filter_cons, if_pos e, List.foldl_cons]
    | false =>
      simp only [e3]
      rw [dcL_pure (by omega) fun d' hd => h d' (List.mem_cons_of_mem _ hd), List.filter_cons, if_neg (by rw [e]; decide)]
theorem fold_new {ns : List Str} {f : Str → Int} : ∀ {A : List (Str × Int)}, (A.map (·.1) ++ ns).Nodup → ns.foldl (fun a n => dput a (.str n) (.int (f n))) (A.map fun p => ((.str p.1 : D), (.int p.2 : D))) = (A ++ mkA ns f).map fun p => ((.str p.1 : D), (.int p.2 : D)) := by
  induction ns with
  | nil => intro A _; rw [show mkA [] f = [] from rfl, List.append_nil]; rfl
  | cons n r ih =>
    intro A h
    rw [List.foldl_cons, dput_new (fun hm => (List.nodup_append.mp h).2.2 n hm n List.mem_cons_self rfl), ih]
    · rw [List.append_assoc]; rfl
    · rw [List.map_append, List.append_assoc]; exact h
theorem it_ok {m : M (Bool × D)} {ρ ρ1 : En} {fl : Bool} {d : D} {ds : List D} (h : m ρ = .ok (fl, d) ρ1) (hd : itD d = some ds) : itM m ρ = .ok ds ρ1 := by
  unfold itM bnd; rw [h]; simp only [hd]
theorem dc_ok {vs : List Nat} {ml : M (List D)} {g : PM} {tt : M Bool} {tk te : M (Bool × D)} {ρ ρ1 ρ2 : En} {ds : List D} {xs : List (D × D)} (h : ml ρ = .ok ds ρ1) (h2 : dcL vs g tt tk te [] ds (wipeE ρ1 vs) = .ok xs ρ2) : dcM vs ml g tt tk te ρ = .ok (true, .dict xs) (backE ρ1 ρ2 vs) := by
  unfold dcM bnd; rw [h]; simp only [h2]
theorem lc_ok {vs : List Nat} {ml : M (List D)} {g : PM} {tt : M Bool} {te : M (Bool × D)} {ρ ρ1 ρ2 : En} {ds xs : List D} (h : ml ρ = .ok ds ρ1) (h2 : lcL vs g tt te ds (wipeE ρ1 vs) = .ok xs ρ2) (hl : xs.length ≤ LIM) : lcM vs ml g tt te ρ = .ok (true, .list xs) (backE ρ1 ρ2 vs) := by
  unfold lcM bnd; rw [h]; simp only [h2, if_pos hl]
theorem lcN_ok {vs : List Nat} {i : Nat} {g : PM} {tt : M Bool} {te : M (Bool × D)} {ρ ρ2 : En} {fl : Bool} {ds : List (D × D)} {xs : List D} (h : ρ.getD i none = some (fl, .dict ds)) (hd : isDic ds = true) (h2 : lcL vs g tt te (ds.map (·.1)) (wipeE (frz1 ρ i) vs) = .ok xs ρ2) (hl : xs.length ≤ LIM) : lcN vs i g tt te ρ = .ok (true, .list xs) (backE (frz1 ρ i) ρ2 vs) := by
  unfold lcN; rw [h]; simp only [hd, if_true, h2, if_pos hl]
theorem lcN_seq {vs : List Nat} {i : Nat} {g : PM} {tt : M Bool} {te : M (Bool × D)} {ρ : En} {fl : Bool} {ds : List D} (h : ρ.getD i none = some (fl, .list ds)) : lcN vs i g tt te ρ = lcM vs (itM (rV i)) g tt te ρ := by
  unfold lcN; rw [h]
theorem forN_seq {i : Nat} {g : PM} {b : M Out} {ρ : En} {fl : Bool} {ds : List D} (h : ρ.getD i none = some (fl, .list ds)) : forN i g b ρ = forM (itM (rV i)) g b ρ := by
  unfold forN; rw [h]
theorem sum_ints (ns : List Int) : sumG [.list (ns.map .int)] = some (false, .int ns.sum) := by
  have : ∀ ns : List Int, intsOf (ns.map .int) = some ns := fun ns => by
    induction ns with
    | nil => rfl
    | cons n r ih =>
      show (intsOf (r.map .int)).map (n :: ·) = _
      rw [ih]; rfl
  show (intsOf (ns.map .int)).map (fun ns => (false, PyData.int ns.sum)) = _
  rw [this]; rfl
theorem filter_strL (p : Str → Bool) (q : D → Bool) (h : ∀ n, q (.str n) = p n) : ∀ ns : List Str, (strL ns).filter q = strL (ns.filter p)
  | [] => rfl
  | n :: ns => by
    show (PyData.str n :: strL ns).filter q = _
    rw [List.filter_cons, List.filter_cons, h n, filter_strL p q h ns]
    split <;> rfl
theorem fin_ok {mp : Option Nat} {m : M Out} {ρ : En} {r : Res Out} {x : FRes} (h : m ρ = r) (k : endF mp r = x) : endF mp (m ρ) = x := by
  rw [h]; exact k
theorem fin_post {mp : Option Nat} {m : M Out} {ρ : En} {x : FRes} (h : Post (m ρ) fun r => endF mp r = x) : endF mp (m ρ) = x := h
theorem augS_ok {i : Nat} {f : Int → Int → Option Int} {mb : M Tok} {na : M (Bool × D)} {ρ ρ1 ρ2 : En} {t : Tok} {d0 d1 d2 kd kd2 z d' : D} {fl : Bool} {x : Int} {r : Bool × D} (h0 : ownD ρ i = some d0) (hb : mb ρ = .ok t ρ1) (h1 : ownD ρ1 i = some d1) (hk : rsv ρ1 t = some kd) (hx : idxG d1 kd = some (fl, .int x)) (hn : na ρ1 = .ok r ρ2)
    (h2 : ownD ρ2 i = some d2) (hk2 : rsv ρ2 t = some kd2) (ho : iopG f (.int x) r.2 = some z) (hs : setG d2 kd2 z = some d') : augS i f mb na ρ = .ok .nxt (ρ2.set i (some (true, d'))) := by
  unfold augS bnd
  simp only [h0, hb, h1, hk, hx, hn, h2, hk2, ho, hs, Option.bind_some]
theorem meth_ok {i : Nat} {ml : M (List D)} {g : List D → List D → Option (List D × D)} {ρ ρ1 : En} {xs0 xs ds xs' : List D} {z : D} (h0 : ownL ρ i = some xs0) (h : ml ρ = .ok ds ρ1) (h1 : ownL ρ1 i = some xs) (hg : g xs ds = some (xs', z)) : methM i ml g ρ = .ok (false, z) (ρ1.set i (some (true, .list xs'))) := by
  unfold methM bnd
  simp only [h0, h, h1, hg]
theorem app_ok' {xs : List D} {d : D} (h : xs.length < LIM) : appG xs [d] = some (xs ++ [d], .none) := if_pos h
theorem look_mid {a b : List (Str × Int)} {s : Str} {w : Int} (h : s ∉ a.map (·.1)) : (a ++ (s, w) :: b).lookup s = some w := by
  induction a with
  | nil => rw [List.nil_append, List.lookup_cons, beq_self_eq_true]
  | cons p r ih =>
    obtain ⟨o, x⟩ := p
    rw [List.map_cons, List.mem_cons, not_or] at h
    rw [List.cons_append, List.lookup_cons, beq_false_of_ne h.1]
    exact ih h.2
theorem aset_none {a : List (Str × Int)} {s : Str} {v : Int} (h : s ∉ a.map (·.1)) : asetA a s v = a := by
  unfold asetA
  conv => rhs; rw [← List.map_id a]
  apply List.map_congr_left
  intro p hp
  exact if_neg fun e => h (List.mem_map.mpr ⟨p, hp, e⟩)
theorem aset_mid {a b : List (Str × Int)} {s : Str} {w v : Int} (h : s ∉ a.map (·.1)) (h2 : s ∉ b.map (·.1)) : asetA (a ++ (s, w) :: b) s v = a ++ (s, v) :: b := by
  have e : asetA (a ++ (s, w) :: b) s v = asetA a s v ++ asetA ((s, w) :: b) s v := List.map_append
  rw [e, aset_none h]
  show a ++ (if s = s then (s, v) else (s, w)) :: asetA b s v = _
  rw [if_pos rfl, aset_none h2]
def LoopQ (P : List D → En → Prop) (Q : Res Out → Prop) (ds : List D) : Res Out → Prop
  | .ok .nxt ρ2 => P ds ρ2
  | .ok .cnt ρ2 => P ds ρ2
  | .ok .brk ρ2 => Q (.ok .nxt ρ2)
  | .ok (.ret fl d) ρ2 => Q (.ok (.ret fl d) ρ2)
  | .err x ρ2 => Q (.err x ρ2)
  | .stuck => False
theorem go_loop {g : PM} {body : M Out} (P : List D → En → Prop) {Q : Res Out → Prop} {ds : List D} {ρ : En} (h0 : ∀ ρ, P [] ρ → Q (.ok .nxt ρ))
    (hs : ∀ d ds ρ, P (d :: ds) ρ → ∃ ρ1, g d ρ = some ρ1 ∧ Post (body ρ1) (LoopQ P Q ds)) (h : P ds ρ) : Post (loopL g body ds ρ) Q := by
  refine loop_rule P Q h0 (fun d ds ρ hp => ?_) h
  obtain ⟨ρ1, e, hb⟩ := hs d ds ρ hp
  refine ⟨ρ1, e, ?_⟩
  unfold Post at hb
  cases eb : body ρ1 with
  | stuck => rw [eb] at hb; exact hb
  | err x ρ2 => rw [eb] at hb; exact hb
  | ok o ρ2 =>
    rw [eb] at hb
    cases o <;> exact hb
theorem par_ok {pr : Nat → Bool} {i j : Nat} {na nb : M (Bool × D)} {ρ ρ1 ρ2 : En} {r1 r2 : Bool × D} (hp : (pr i || pr j) = false) (h1 : na ρ = .ok r1 ρ1) (h2 : nb ρ1 = .ok r2 ρ2) : parM pr i j na nb ρ = .ok .nxt ((ρ2.set i (some r1)).set j (some r2)) := by
  unfold parM bnd
  rw [hp, if_neg (by decide), h1]
  simp only
  rw [h2]
end PK
set_option maxHeartbeats 0
namespace PKL
open PySem PySem.Spec PyProof.Rows L2 PK
def top (i : Nat) : Stmt := PySem.Challenge.pw_shelvesfilled_k46_whole_transfers_betwee.main.body.getD i (.Pass ⟨0, 0, 0, 0⟩)
inductive Fn where
  | fshort_of
  | fspare_of
  | ftransfers
  | fafter_transfers
  | fmoved_items
  | f_law_state
  | f_law_draw
  | f_law_told
  | flaw
def cat_np : Exc → Option Bool
  | .np => some true
  | _ => none
abbrev st_short_of : Stmt := top 4
def N_short_of : List Str := ["have", "need", "shop"]
def P_short_of : List Str := ["have", "need"]
noncomputable def D_short_of (C : Fn → List D → FRes) : M Out :=
    retM (dcM [2] (itM (opN (aCons (oV 0) (aNil)) sortedG)) (pN (prV [2]) 2) (tstB (op2 (oE (op2 (oV 1) (oV 2) idxG)) (oE (op2 (oV 0) (oV 2) idxG)) gtG)) (rV 2) (op2 (oE (op2 (oV 1) (oV 2) idxG)) (oE (op2 (oV 0) (oV 2) idxG)) subG))
abbrev st_spare_of : Stmt := top 5
def N_spare_of : List Str := ["have", "need", "shop"]
def P_spare_of : List Str := ["have", "need"]
noncomputable def D_spare_of (C : Fn → List D → FRes) : M Out :=
    retM (dcM [2] (itM (opN (aCons (oV 0) (aNil)) sortedG)) (pN (prV [2]) 2) (tstB (op2 (oE (op2 (oV 0) (oV 2) idxG)) (oE (op2 (oV 1) (oV 2) idxG)) gtG)) (rV 2) (op2 (oE (op2 (oV 0) (oV 2) idxG)) (oE (op2 (oV 1) (oV 2) idxG)) subG))
abbrev st_transfers : Stmt := top 6
def N_transfers : List Str := ["have", "need", "found", "shop", "short", "spare", "other", "items"]
def P_transfers : List Str := ["have", "need"]
noncomputable def D_transfers (C : Fn → List D → FRes) : M Out :=
    seqM (parM (prF none) 4 5 (callM (C .fshort_of) none (aCons (oV 0) (aCons (oV 1) (aNil)))) (callM (C .fspare_of) none (aCons (oV 0) (aCons (oV 1) (aNil))))) <|
    seqM (asgM (prF none) 2 (lstM (lNil))) <|
    seqM (forM (itM (opN (aCons (oV 4) (aNil)) sortedG)) (pN (prF none) 3) (seqM (forM (itM (opN (aCons (oV 5) (aNil)) sortedG)) (pN (prF none) 6) (seqM (asgM (prF none) 7 (opN (aCons (oE (op2 (oV 4) (oV 3) idxG)) (aCons (oE (op2 (oV 5) (oV 6) idxG)) (aNil))) minG)) <|
    ifM (tstB (op2 (oV 7) (oE (cst (.int 0))) gtG)) (seqM (exprM (methM 2 (lCons (tupM (lCons (rV 6) (lCons (rV 3) (lCons (rV 7) (lNil))))) (lNil)) appG)) <|
    seqM (augS 4 iSub (oV 3) (rV 7)) <|
    augS 5 iSub (oV 6) (rV 7)) nilM)) <|
    ifM (tstB (op2 (oE (op2 (oV 4) (oV 3) idxG)) (oE (cst (.int 0))) gtG)) (raiseM .np) nilM)) <|
    retM (mV 2)
abbrev st_after_transfers : Stmt := top 7
def N_after_transfers : List Str := ["have", "rows", "found", "start", "goal", "items"]
def P_after_transfers : List Str := ["have", "rows"]
noncomputable def D_after_transfers (C : Fn → List D → FRes) : M Out :=
    seqM (asgM (prF none) 2 (opN (aCons (oV 0) (aNil)) dictG)) <|
    seqM (forN 1 (pT 3 (pCons (pN (prF none) 3) (pCons (pN (prF none) 4) (pCons (pN (prF none) 5) (pNil))))) (seqM (augS 2 iSub (oV 3) (rV 5)) <|
    augS 2 iAdd (oV 4) (rV 5))) <|
    retM (mV 2)
abbrev st_moved_items : Stmt := top 8
def N_moved_items : List Str := ["rows", "_", "items"]
def P_moved_items : List Str := ["rows"]
noncomputable def D_moved_items (C : Fn → List D → FRes) : M Out :=
    retM (opN (aCons (oE (lcN [1, 2] (0) (pT 3 (pCons (pN (prV [1, 2]) 1) (pCons (pN (prV [1, 2]) 1) (pCons (pN (prV [1, 2]) 2) (pNil))))) (yesM) (rV 2))) (aNil)) sumG)
abbrev st__law_state : Stmt := top 10
def N__law_state : List Str := ["script"]
def P__law_state : List Str := ["script"]
noncomputable def D__law_state (C : Fn → List D → FRes) : M Out :=
    retM (lstM (lCons (opN (aCons (oV 0) (aNil)) listG) (lCons (cst (.int 0)) (lCons (cst (.int 0)) (lCons (cst (.int 0)) (lCons (cst (.bool false)) (lCons (cst (.int 500)) (lNil))))))))
abbrev st__law_draw : Stmt := top 11
def N__law_draw : List Str := ["state", "limit", "mixed", "cell", "digit"]
def P__law_draw : List Str := ["state", "limit"]
noncomputable def D__law_draw (C : Fn → List D → FRes) : M Out :=
    seqM (ifM (tstB (op2 (oE (op2 (oV 0) (oE (cst (.int 3))) idxG)) (oE (cst (.int 0))) eqG)) (seqM (ifM (tstB (op2 (oE (op2 (oV 0) (oE (cst (.int 1))) idxG)) (oE (opN (aCons (oE (op2 (oV 0) (oE (cst (.int 0))) idxG)) (aNil)) lenG)) geG)) (retM (cst (.int 0))) nilM) <|
    seqM (asgM (prF (some 0)) 3 (op2 (oE (op2 (oV 0) (oE (cst (.int 0))) idxG)) (oE (op2 (oV 0) (oE (cst (.int 1))) idxG)) idxG)) <|
    seqM (ifM (tstB (op2 (oV 3) (oE (cst (.int 0))) ltG)) (asgM (prF (some 0)) 3 (op2 (oE (op1 (oE (cst (.int 1))) negG)) (oV 3) subG)) nilM) <|
    seqM (setM 0 (oE (cst (.int 1))) (op2 (oE (op2 (oV 0) (oE (cst (.int 1))) idxG)) (oE (cst (.int 1))) addG)) <|
    seqM (setM 0 (oE (cst (.int 2))) (rV 3)) <|
    seqM (setM 0 (oE (cst (.int 4))) (op2 (oV 3) (oE (op2 (oE (cst (.int 10))) (oE (cst (.int 18))) powG)) geG)) <|
    seqM (setM 0 (oE (cst (.int 3))) (cst (.int 6))) <|
    ifM (tstO (oE (op2 (oV 0) (oE (cst (.int 4))) idxG))) (setM 0 (oE (cst (.int 3))) (cst (.int 60))) nilM) nilM) <|
    seqM (setM 0 (oE (cst (.int 3))) (op2 (oE (op2 (oV 0) (oE (cst (.int 3))) idxG)) (oE (cst (.int 1))) subG)) <|
    seqM (ifM (tstO (oE (op2 (oV 0) (oE (cst (.int 4))) idxG))) (seqM (asgM (prF (some 0)) 4 (op2 (oE (opN (aCons (oE (op2 (oV 0) (oE (cst (.int 2))) idxG)) (aNil)) intG)) (oV 1) modG)) <|
    seqM (setM 0 (oE (cst (.int 2))) (op2 (oE (op2 (oV 0) (oE (cst (.int 2))) idxG)) (oV 1) fdivG)) <|
    seqM (ifM (tstB (op2 (oE (op2 (oV 0) (oE (cst (.int 2))) idxG)) (oE (cst (.int 0))) eqG)) (setM 0 (oE (cst (.int 3))) (cst (.int 0))) nilM) <|
    retM (mV 4)) nilM) <|
    seqM (asgM (prF (some 0)) 2 (op2 (oE (opN (aCons (oE (op2 (oE (op2 (oE (op2 (oE (op2 (oV 0) (oE (cst (.int 2))) idxG)) (oE (cst (.int 48271))) mulG)) (oE (op2 (oE (op2 (oV 0) (oE (cst (.int 3))) idxG)) (oE (cst (.int 69621))) mulG)) addG)) (oE (cst (.int 7))) addG)) (aNil)) intG)) (oE (cst (.int 2147483647))) modG)) <|
    seqM (asgM (prF (some 0)) 2 (op2 (oE (opN (aCons (oE (op2 (oE (op2 (oE (op2 (oV 2) (oV 2) mulG)) (oE (op2 (oE (op2 (oV 0) (oE (cst (.int 2))) idxG)) (oE (cst (.int 31))) mulG)) addG)) (oE (op2 (oV 0) (oE (cst (.int 3))) idxG)) addG)) (aNil)) intG)) (oE (cst (.int 1000003))) modG)) <|
    retM (op2 (oE (opN (aCons (oV 2) (aNil)) intG)) (oV 1) modG)
abbrev st__law_told : Stmt := top 12
def N__law_told : List Str := ["have", "need"]
def P__law_told : List Str := ["have", "need"]
noncomputable def D__law_told (C : Fn → List D → FRes) : M Out :=
    tryM (retM (callM (C .ftransfers) none (aCons (oV 0) (aCons (oV 1) (aNil))))) [(cat_np, retM (cst .none))]
abbrev st_law : Stmt := top 13
def N_law : List Str := ["script", "state", "names", "have", "need", "name", "short", "spare", "lack", "rows", "due", "left", "after", "k", "wants", "other", "gone"]
def P_law : List Str := ["script"]
noncomputable def D_law (C : Fn → List D → FRes) : M Out :=
    seqM (asgM (prF none) 1 (callM (C .f_law_state) none (aCons (oV 0) (aNil)))) <|
    seqM (asgM (prF none) 2 (lcM [13] (itN (aCons (oE (callM (C .f_law_draw) (some 0) (aCons (oV 1) (aCons (oE (cst (.int 8))) (aNil))))) (aNil)) rng1G) (pN (prV [13]) 13) (yesM) (op2 (oE (cst (.str "s"))) (oE (op2 (oE (cst (.str "abcdefg"))) (oV 13) idxG)) addG))) <|
    seqM (asgM (prF none) 3 ((fun ρ => .ok (true, .dict []) ρ))) <|
    seqM (asgM (prF none) 4 ((fun ρ => .ok (true, .dict []) ρ))) <|
    seqM (forN 2 (pN (prF none) 5) (seqM (setM 3 (oV 5) (callM (C .f_law_draw) (some 0) (aCons (oV 1) (aCons (oE (cst (.int 61))) (aNil))))) <|
    setM 4 (oV 5) (callM (C .f_law_draw) (some 0) (aCons (oV 1) (aCons (oE (cst (.int 46))) (aNil)))))) <|
    seqM (asgM (prF none) 6 ((fun ρ => .ok (true, .dict []) ρ))) <|
    seqM (asgM (prF none) 7 ((fun ρ => .ok (true, .dict []) ρ))) <|
    seqM (forN 2 (pN (prF none) 5) (seqM (ifM (tstB (op2 (oE (op2 (oV 4) (oV 5) idxG)) (oE (op2 (oV 3) (oV 5) idxG)) gtG)) (setM 6 (oV 5) (op2 (oE (op2 (oV 4) (oV 5) idxG)) (oE (op2 (oV 3) (oV 5) idxG)) subG)) nilM) <|
    ifM (tstB (op2 (oE (op2 (oV 3) (oV 5) idxG)) (oE (op2 (oV 4) (oV 5) idxG)) gtG)) (setM 7 (oV 5) (op2 (oE (op2 (oV 3) (oV 5) idxG)) (oE (op2 (oV 4) (oV 5) idxG)) subG)) nilM)) <|
    seqM (ifM (orT (tstB (op2 (oE (callM (C .fshort_of) none (aCons (oE (opN (aCons (oV 3) (aNil)) dictG)) (aCons (oE (opN (aCons (oV 4) (aNil)) dictG)) (aNil))))) (oV 6) neG)) (tstB (op2 (oE (callM (C .fspare_of) none (aCons (oE (opN (aCons (oV 3) (aNil)) dictG)) (aCons (oE (opN (aCons (oV 4) (aNil)) dictG)) (aNil))))) (oV 7) neG))) (retM (cst (.bool false))) nilM) <|
    seqM (asgM (prF none) 8 (opN (aCons (oE (lcN [5] (6) (pN (prV [5]) 5) (yesM) (op2 (oV 6) (oV 5) idxG))) (aNil)) sumG)) <|
    seqM (asgM (prF none) 9 (callM (C .f_law_told) none (aCons (oE (opN (aCons (oV 3) (aNil)) dictG)) (aCons (oE (opN (aCons (oV 4) (aNil)) dictG)) (aNil))))) <|
    seqM (ifM (tstB (op2 (oV 8) (oE (opN (aCons (oE (lcN [5] (7) (pN (prV [5]) 5) (yesM) (op2 (oV 7) (oV 5) idxG))) (aNil)) sumG)) gtG)) (retM (op2 (oV 9) (oE (cst .none)) isG)) nilM) <|
    seqM (asgM (prF none) 10 (lstM (lNil))) <|
    seqM (asgM (prF none) 11 (opN (aCons (oV 7) (aNil)) dictG)) <|
    seqM (forN 2 (pN (prF none) 5) (ifM (tstB (op2 (oV 5) (oV 6) inG)) (seqM (asgM (prF none) 14 (op2 (oV 6) (oV 5) idxG)) <|
    forN 2 (pN (prF none) 15) (ifM (andT (tstB (op2 (oV 15) (oV 11) inG)) (andT (tstB (op2 (oV 14) (oE (cst (.int 0))) gtG)) (tstB (op2 (oE (op2 (oV 11) (oV 15) idxG)) (oE (cst (.int 0))) gtG)))) (seqM (asgM (prF none) 16 (opN (aCons (oV 14) (aCons (oE (op2 (oV 11) (oV 15) idxG)) (aNil))) minG)) <|
    seqM (exprM (methM 10 (lCons (tupM (lCons (rV 15) (lCons (rV 5) (lCons (rV 16) (lNil))))) (lNil)) appG)) <|
    seqM (setM 11 (oV 15) (op2 (oE (op2 (oV 11) (oV 15) idxG)) (oV 16) subG)) <|
    asgM (prF none) 14 (op2 (oV 14) (oV 16) subG)) nilM)) nilM)) <|
    seqM (ifM (orT (tstB (op2 (oV 9) (oV 10) neG)) (tstB (op2 (oE (callM (C .fmoved_items) none (aCons (oE (opN (aCons (oV 9) (aNil)) listG)) (aNil)))) (oV 8) neG))) (retM (cst (.bool false))) nilM) <|
    seqM (asgM (prF none) 12 (callM (C .fafter_transfers) none (aCons (oE (opN (aCons (oV 3) (aNil)) dictG)) (aCons (oE (opN (aCons (oV 9) (aNil)) listG)) (aNil))))) <|
    seqM (forN 2 (pN (prF none) 5) (ifM (orT (tstB (op2 (oE (op2 (oV 12) (oV 5) idxG)) (oE (opN (aCons (oE (op2 (oV 4) (oV 5) idxG)) (aCons (oE (op2 (oV 3) (oV 5) idxG)) (aNil))) minG)) ltG)) (orT (andT (tstB (op2 (oV 5) (oV 6) inG)) (tstB (op2 (oE (op2 (oV 12) (oV 5) idxG)) (oE (op2 (oV 4) (oV 5) idxG)) neG))) (andT (tstB (op2 (oV 5) (oV 7) inG)) (tstB (op2 (oE (op2 (oV 12) (oV 5) idxG)) (oE (op2 (oV 4) (oV 5) idxG)) ltG))))) (retM (cst (.bool false))) nilM)) <|
    seqM (ifM (orT (tstB (op2 (oE (opN (aCons (oE (lcN [5] (2) (pN (prV [5]) 5) (yesM) (op2 (oV 12) (oV 5) idxG))) (aNil)) sumG)) (oE (opN (aCons (oE (lcN [5] (2) (pN (prV [5]) 5) (yesM) (op2 (oV 3) (oV 5) idxG))) (aNil)) sumG)) neG)) (tstB (op2 (oE (callM (C .fshort_of) none (aCons (oE (opN (aCons (oV 12) (aNil)) dictG)) (aCons (oE (opN (aCons (oV 4) (aNil)) dictG)) (aNil))))) (oE ((fun ρ => .ok (true, .dict []) ρ))) neG))) (retM (cst (.bool false))) nilM) <|
    retM (andV (op2 (oE (callM (C .f_law_told) none (aCons (oE ((fun ρ => .ok (true, .dict []) ρ))) (aCons (oE ((fun ρ => .ok (true, .dict []) ρ))) (aNil))))) (oE (lstM (lNil))) eqG) (andV (op2 (oE (callM (C .fmoved_items) none (aCons (oE (lstM (lNil))) (aNil)))) (oE (cst (.int 0))) eqG) (op2 (oE (callM (C .fafter_transfers) none (aCons (oE (dispM [(cst (.str "sa"), cst (.int 5))])) (aCons (oE (lstM (lNil))) (aNil))))) (oE (dispM [(cst (.str "sa"), cst (.int 5))])) eqG)))
def name : Fn → Str
  | .fshort_of => "short_of"
  | .fspare_of => "spare_of"
  | .ftransfers => "transfers"
  | .fafter_transfers => "after_transfers"
  | .fmoved_items => "moved_items"
  | .f_law_state => "_law_state"
  | .f_law_draw => "_law_draw"
  | .f_law_told => "_law_told"
  | .flaw => "law"
def stmt : Fn → Stmt
  | .fshort_of => st_short_of
  | .fspare_of => st_spare_of
  | .ftransfers => st_transfers
  | .fafter_transfers => st_after_transfers
  | .fmoved_items => st_moved_items
  | .f_law_state => st__law_state
  | .f_law_draw => st__law_draw
  | .f_law_told => st__law_told
  | .flaw => st_law
def pars : Fn → List Str
  | .fshort_of => P_short_of
  | .fspare_of => P_spare_of
  | .ftransfers => P_transfers
  | .fafter_transfers => P_after_transfers
  | .fmoved_items => P_moved_items
  | .f_law_state => P__law_state
  | .f_law_draw => P__law_draw
  | .f_law_told => P__law_told
  | .flaw => P_law
def slots : Fn → List Str
  | .fshort_of => N_short_of
  | .fspare_of => N_spare_of
  | .ftransfers => N_transfers
  | .fafter_transfers => N_after_transfers
  | .fmoved_items => N_moved_items
  | .f_law_state => N__law_state
  | .f_law_draw => N__law_draw
  | .f_law_told => N__law_told
  | .flaw => N_law
def mpar : Fn → Option Nat
  | .fshort_of => none
  | .fspare_of => none
  | .ftransfers => none
  | .fafter_transfers => none
  | .fmoved_items => none
  | .f_law_state => none
  | .f_law_draw => some 0
  | .f_law_told => none
  | .flaw => none
noncomputable def den (C : Fn → List D → FRes) : Fn → M Out
  | .fshort_of => D_short_of C
  | .fspare_of => D_spare_of C
  | .ftransfers => D_transfers C
  | .fafter_transfers => D_after_transfers C
  | .fmoved_items => D_moved_items C
  | .f_law_state => D__law_state C
  | .f_law_draw => D__law_draw C
  | .f_law_told => D__law_told C
  | .flaw => D_law C
noncomputable def run : Nat → Fn → List D → FRes
  | 0, _ => fun _ => .stuck
  | n + 1, f => fnM (mpar f) (slots f).length (den (run n) f)
structure Facts (G : G0) (T : XT) : Prop where
  b_dict : G.mg ("dict" : Str) = none
  b_int : G.mg ("int" : Str) = none
  b_len : G.mg ("len" : Str) = none
  b_list : G.mg ("list" : Str) = none
  b_min : G.mg ("min" : Str) = none
  b_range : G.mg ("range" : Str) = none
  b_sorted : G.mg ("sorted" : Str) = none
  b_sum : G.mg ("sum" : Str) = none
  x_np : ExcCls G T "NotPossible" T.np
  cat_np : CatOk T (.ref T.np) cat_np
  nothing : True
structure Ctx (G : G0) (T : XT) (n : Nat) (C : Fn → List D → FRes) : Prop extends Facts G T where
  fn : ∀ f, FnIn G T n (name f) (pars f).length (mpar f) (C f)
section
variable {G : G0} {T : XT} {W : WX} {n : Nat} {C : Fn → List D → FRes} {X : Cx}
theorem b_short_of (R : Ctx G T n C) (c : Cok G (T.fn none) W n N_short_of (defScope st_short_of) fnT X) (S : Sok X W) : PSs X (defBody st_short_of) (rS (T.fn none) W (D_short_of C)) := by
  exact (ss_one (s_ret (e_dc (own := [("shop", 2)]) c (i_val c (e_blt c (br_sorted c) rfl R.b_sorted (by decide +kernel) (a_cons (o_var (i := 0) c rfl rfl) a_nil))) rfl (fun _ c1 => ⟨(g_name (i := 2) c1 rfl rfl), (ts_one (t_cmp (cr_gt) (o_val (e_idx c1 (o_var (i := 1) c1 rfl rfl) (o_var (i := 2) c1 rfl rfl))) (o_val (e_idx c1 (o_var (i := 0) c1 rfl rfl) (o_var (i := 2) c1 rfl rfl))))), (e_var (i := 2) c1 rfl rfl), (e_sub (o_val (e_idx c1 (o_var (i := 1) c1 rfl rfl) (o_var (i := 2) c1 rfl rfl))) (o_val (e_idx c1 (o_var (i := 0) c1 rfl rfl) (o_var (i := 2) c1 rfl rfl))))⟩) (fun _ => rfl))))
theorem b_spare_of (R : Ctx G T n C) (c : Cok G (T.fn none) W n N_spare_of (defScope st_spare_of) fnT X) (S : Sok X W) : PSs X (defBody st_spare_of) (rS (T.fn none) W (D_spare_of C)) := by
  exact (ss_one (s_ret (e_dc (own := [("shop", 2)]) c (i_val c (e_blt c (br_sorted c) rfl R.b_sorted (by decide +kernel) (a_cons (o_var (i := 0) c rfl rfl) a_nil))) rfl (fun _ c1 => ⟨(g_name (i := 2) c1 rfl rfl), (ts_one (t_cmp (cr_gt) (o_val (e_idx c1 (o_var (i := 0) c1 rfl rfl) (o_var (i := 2) c1 rfl rfl))) (o_val (e_idx c1 (o_var (i := 1) c1 rfl rfl) (o_var (i := 2) c1 rfl rfl))))), (e_var (i := 2) c1 rfl rfl), (e_sub (o_val (e_idx c1 (o_var (i := 0) c1 rfl rfl) (o_var (i := 2) c1 rfl rfl))) (o_val (e_idx c1 (o_var (i := 1) c1 rfl rfl) (o_var (i := 2) c1 rfl rfl))))⟩) (fun _ => rfl))))
theorem b_transfers (R : Ctx G T n C) (c : Cok G (T.fn none) W n N_transfers (defScope st_transfers) fnT X) (S : Sok X W) : PSs X (defBody st_transfers) (rS (T.fn none) W (D_transfers C)) := by
  exact (ss_cons (s_par (i := 4) (j := 5) c rfl rfl (by decide) rfl rfl (e_call c (Nat.le_refl _) ((R.fn .fshort_of).pr _) rfl (a_cons (o_var (i := 0) c rfl rfl) (a_cons (o_var (i := 1) c rfl rfl) a_nil)) (al_cons (al_cons al_nil))) (e_call c (Nat.le_refl _) ((R.fn .fspare_of).pr _) rfl (a_cons (o_var (i := 0) c rfl rfl) (a_cons (o_var (i := 1) c rfl rfl) a_nil)) (al_cons (al_cons al_nil))) (swp c rfl))
    (ss_cons (s_asg (i := 2) c rfl rfl (e_lst l_nil))
    (ss_cons (s_for c S.own (i_val c (e_blt c (br_sorted c) rfl R.b_sorted (by decide +kernel) (a_cons (o_var (i := 4) c rfl rfl) a_nil))) (g_name (i := 3) c rfl rfl) (ss_cons (s_for c S.own (i_val c (e_blt c (br_sorted c) rfl R.b_sorted (by decide +kernel) (a_cons (o_var (i := 5) c rfl rfl) a_nil))) (g_name (i := 6) c rfl rfl) (ss_cons (s_asg (i := 7) c rfl rfl (e_blt c (br_min c) rfl R.b_min (by decide +kernel) (a_cons (o_val (e_idx c (o_var (i := 4) c rfl rfl) (o_var (i := 3) c rfl rfl))) (a_cons (o_val (e_idx c (o_var (i := 5) c rfl rfl) (o_var (i := 6) c rfl rfl))) a_nil))))
    (ss_one (s_if (t_cmp (cr_gt) (o_var (i := 7) c rfl rfl) (o_val e_int)) (ss_cons (s_expr (e_meth (i := 2) c met_append PySem.F.slot_list_append PySem.F.type_list_append mt_append rfl rfl (l_cons (e_tup (l_cons (e_var (i := 6) c rfl rfl) (l_cons (e_var (i := 3) c rfl rfl) (l_cons (e_var (i := 7) c rfl rfl) l_nil)))) l_nil) rfl rfl (by decide) (by decide) (by decide) rfl rfl))
    (ss_cons (s_augS (i := 4) c ipr_sub rfl rfl (o_var (i := 3) c rfl rfl) (e_var (i := 7) c rfl rfl) (fun _ _ _ => rfl))
    (ss_one (s_augS (i := 5) c ipr_sub rfl rfl (o_var (i := 6) c rfl rfl) (e_var (i := 7) c rfl rfl) (fun _ _ _ => rfl))))) ss_nil))) (fun _ => rfl))
    (ss_one (s_if (t_cmp (cr_gt) (o_val (e_idx c (o_var (i := 4) c rfl rfl) (o_var (i := 3) c rfl rfl))) (o_val e_int)) (ss_one (s_raise c S (R.x_np.pr _) (fun _ => .np) rfl)) ss_nil))) (fun _ => rfl))
    (ss_one (s_ret (e_mvar (i := 2) c rfl rfl))))))
theorem b_after_transfers (R : Ctx G T n C) (c : Cok G (T.fn none) W n N_after_transfers (defScope st_after_transfers) fnT X) (S : Sok X W) : PSs X (defBody st_after_transfers) (rS (T.fn none) W (D_after_transfers C)) := by
  exact (ss_cons (s_asg (i := 2) c rfl rfl (e_ty c (br_dict) rfl R.b_dict (by decide +kernel) (a_cons (o_var (i := 0) c rfl rfl) a_nil)))
    (ss_cons (s_forN (i := 1) c S.own rfl rfl (g_tup c (gs_cons (g_name (i := 3) c rfl rfl) (gs_cons (g_name (i := 4) c rfl rfl) (gs_cons (g_name (i := 5) c rfl rfl) gs_nil)))) (ss_cons (s_augS (i := 2) c ipr_sub rfl rfl (o_var (i := 3) c rfl rfl) (e_var (i := 5) c rfl rfl) (fun _ _ _ => rfl))
    (ss_one (s_augS (i := 2) c ipr_add rfl rfl (o_var (i := 4) c rfl rfl) (e_var (i := 5) c rfl rfl) (fun _ _ _ => rfl)))))
    (ss_one (s_ret (e_mvar (i := 2) c rfl rfl)))))
theorem b_moved_items (R : Ctx G T n C) (c : Cok G (T.fn none) W n N_moved_items (defScope st_moved_items) fnT X) (S : Sok X W) : PSs X (defBody st_moved_items) (rS (T.fn none) W (D_moved_items C)) := by
  exact (ss_one (s_ret (e_blt c (br_sum c) rfl R.b_sum (by decide +kernel) (a_cons (o_val (e_lcN (own := [("_", 1), ("items", 2)]) (i := 0) c rfl rfl rfl (fun _ c1 => ⟨(g_tup c1 (gs_cons (g_name (i := 1) c1 rfl rfl) (gs_cons (g_name (i := 1) c1 rfl rfl) (gs_cons (g_name (i := 2) c1 rfl rfl) gs_nil)))), ts_nil, (e_var (i := 2) c1 rfl rfl)⟩))) a_nil))))
theorem b__law_state (R : Ctx G T n C) (c : Cok G (T.fn none) W n N__law_state (defScope st__law_state) fnT X) (S : Sok X W) : PSs X (defBody st__law_state) (rS (T.fn none) W (D__law_state C)) := by
  exact (ss_one (s_ret (e_lst (l_cons (e_ty c (br_list c) rfl R.b_list (by decide +kernel) (a_cons (o_var (i := 0) c rfl rfl) a_nil)) (l_cons e_int (l_cons e_int (l_cons e_int (l_cons e_bl (l_cons e_int l_nil)))))))))
theorem b__law_draw (R : Ctx G T n C) (c : Cok G (T.fn (some 0)) W n N__law_draw (defScope st__law_draw) fnT X) (S : Sok X W) : PSs X (defBody st__law_draw) (rS (T.fn (some 0)) W (D__law_draw C)) := by
  exact (ss_cons (s_if (t_cmp (cr_eq c) (o_val (e_idx c (o_var (i := 0) c rfl rfl) (o_val e_int))) (o_val e_int)) (ss_cons (s_if (t_cmp (cr_ge) (o_val (e_idx c (o_var (i := 0) c rfl rfl) (o_val e_int))) (o_val (e_blt c (br_len c) rfl R.b_len (by decide +kernel) (a_cons (o_val (e_idx c (o_var (i := 0) c rfl rfl) (o_val e_int))) a_nil)))) (ss_one (s_ret e_int)) ss_nil)
    (ss_cons (s_asg (i := 3) c rfl rfl (e_idx c (o_val (e_idx c (o_var (i := 0) c rfl rfl) (o_val e_int))) (o_val (e_idx c (o_var (i := 0) c rfl rfl) (o_val e_int)))))
    (ss_cons (s_if (t_cmp (cr_lt) (o_var (i := 3) c rfl rfl) (o_val e_int)) (ss_one (s_asg (i := 3) c rfl rfl (e_sub (o_val (e_neg (o_val e_int))) (o_var (i := 3) c rfl rfl)))) ss_nil)
    (ss_cons (s_set (i := 0) c rfl rfl (e_add c (o_val (e_idx c (o_var (i := 0) c rfl rfl) (o_val e_int))) (o_val e_int)) (o_val e_int) (fun _ => rfl))
    (ss_cons (s_set (i := 0) c rfl rfl (e_var (i := 3) c rfl rfl) (o_val e_int) (fun _ => rfl))
    (ss_cons (s_set (i := 0) c rfl rfl (e_cmp (cr_ge) (o_var (i := 3) c rfl rfl) (o_val (e_pow (o_val e_int) (o_val e_int)))) (o_val e_int) (fun _ => rfl))
    (ss_cons (s_set (i := 0) c rfl rfl e_int (o_val e_int) (fun _ => rfl))
    (ss_one (s_if (t_truth c (o_val (e_idx c (o_var (i := 0) c rfl rfl) (o_val e_int)))) (ss_one (s_set (i := 0) c rfl rfl e_int (o_val e_int) (fun _ => rfl))) ss_nil))))))))) ss_nil)
    (ss_cons (s_set (i := 0) c rfl rfl (e_sub (o_val (e_idx c (o_var (i := 0) c rfl rfl) (o_val e_int))) (o_val e_int)) (o_val e_int) (fun _ => rfl))
    (ss_cons (s_if (t_truth c (o_val (e_idx c (o_var (i := 0) c rfl rfl) (o_val e_int)))) (ss_cons (s_asg (i := 4) c rfl rfl (e_mod (o_val (e_ty c (br_int) rfl R.b_int (by decide +kernel) (a_cons (o_val (e_idx c (o_var (i := 0) c rfl rfl) (o_val e_int))) a_nil))) (o_var (i := 1) c rfl rfl)))
    (ss_cons (s_set (i := 0) c rfl rfl (e_fdiv (o_val (e_idx c (o_var (i := 0) c rfl rfl) (o_val e_int))) (o_var (i := 1) c rfl rfl)) (o_val e_int) (fun _ => rfl))
    (ss_cons (s_if (t_cmp (cr_eq c) (o_val (e_idx c (o_var (i := 0) c rfl rfl) (o_val e_int))) (o_val e_int)) (ss_one (s_set (i := 0) c rfl rfl e_int (o_val e_int) (fun _ => rfl))) ss_nil)
    (ss_one (s_ret (e_mvar (i := 4) c rfl rfl)))))) ss_nil)
    (ss_cons (s_asg (i := 2) c rfl rfl (e_mod (o_val (e_ty c (br_int) rfl R.b_int (by decide +kernel) (a_cons (o_val (e_add c (o_val (e_add c (o_val (e_mul (o_val (e_idx c (o_var (i := 0) c rfl rfl) (o_val e_int))) (o_val e_int))) (o_val (e_mul (o_val (e_idx c (o_var (i := 0) c rfl rfl) (o_val e_int))) (o_val e_int))))) (o_val e_int))) a_nil))) (o_val e_int)))
    (ss_cons (s_asg (i := 2) c rfl rfl (e_mod (o_val (e_ty c (br_int) rfl R.b_int (by decide +kernel) (a_cons (o_val (e_add c (o_val (e_add c (o_val (e_mul (o_var (i := 2) c rfl rfl) (o_var (i := 2) c rfl rfl))) (o_val (e_mul (o_val (e_idx c (o_var (i := 0) c rfl rfl) (o_val e_int))) (o_val e_int))))) (o_val (e_idx c (o_var (i := 0) c rfl rfl) (o_val e_int))))) a_nil))) (o_val e_int)))
    (ss_one (s_ret (e_mod (o_val (e_ty c (br_int) rfl R.b_int (by decide +kernel) (a_cons (o_var (i := 2) c rfl rfl) a_nil))) (o_var (i := 1) c rfl rfl)))))))))
theorem b__law_told (R : Ctx G T n C) (c : Cok G (T.fn none) W n N__law_told (defScope st__law_told) fnT X) (S : Sok X W) : PSs X (defBody st__law_told) (rS (T.fn none) W (D__law_told C)) := by
  exact (ss_one (s_try c S (fun W X c S => (ss_one (s_ret (e_call c (Nat.le_refl _) ((R.fn .ftransfers).pr _) rfl (a_cons (o_var (i := 0) c rfl rfl) (a_cons (o_var (i := 1) c rfl rfl) a_nil)) (al_cons (al_cons al_nil)))))) (.cons (names_of c (R.x_np.pr _) rfl) (R.cat_np.pr _) (fun _ _ _ _ _ => (ss_one (s_ret e_non))) .nil)))
theorem b_law (R : Ctx G T n C) (c : Cok G (T.fn none) W n N_law (defScope st_law) fnT X) (S : Sok X W) : PSs X (defBody st_law) (rS (T.fn none) W (D_law C)) := by
  exact (ss_cons (s_asg (i := 1) c rfl rfl (e_call c (Nat.le_refl _) ((R.fn .f_law_state).pr _) rfl (a_cons (o_var (i := 0) c rfl rfl) a_nil) (al_cons al_nil)))
    (ss_cons (s_setLc (own := [("k", 13)]) (i := 2) c rfl rfl (i_rng1 c (a_cons (o_val (e_call c (Nat.le_refl _) ((R.fn .f_law_draw).pr _) rfl (a_cons (o_var (i := 1) c rfl rfl) (a_cons (o_val e_int) a_nil)) (al_cons (al_cons al_nil)))) a_nil) rfl R.b_range) rfl (fun _ c1 => ⟨(g_name (i := 13) c1 rfl rfl), ts_nil, (e_add c1 (o_val (e_str (by decide +kernel))) (o_val (e_idx c1 (o_val (e_str (by decide +kernel))) (o_var (i := 13) c1 rfl rfl))))⟩) (fun _ => rfl))
    (ss_cons (s_asg (i := 3) c rfl rfl e_dict0)
    (ss_cons (s_asg (i := 4) c rfl rfl e_dict0)
    (ss_cons (s_forN (i := 2) c S.own rfl rfl (g_name (i := 5) c rfl rfl) (ss_cons (s_set (i := 3) c rfl rfl (e_call c (Nat.le_refl _) ((R.fn .f_law_draw).pr _) rfl (a_cons (o_var (i := 1) c rfl rfl) (a_cons (o_val e_int) a_nil)) (al_cons (al_cons al_nil))) (o_var (i := 5) c rfl rfl) (fun _ => rfl))
    (ss_one (s_set (i := 4) c rfl rfl (e_call c (Nat.le_refl _) ((R.fn .f_law_draw).pr _) rfl (a_cons (o_var (i := 1) c rfl rfl) (a_cons (o_val e_int) a_nil)) (al_cons (al_cons al_nil))) (o_var (i := 5) c rfl rfl) (fun _ => rfl)))))
    (ss_cons (s_asg (i := 6) c rfl rfl e_dict0)
    (ss_cons (s_asg (i := 7) c rfl rfl e_dict0)
    (ss_cons (s_forN (i := 2) c S.own rfl rfl (g_name (i := 5) c rfl rfl) (ss_cons (s_if (t_cmp (cr_gt) (o_val (e_idx c (o_var (i := 4) c rfl rfl) (o_var (i := 5) c rfl rfl))) (o_val (e_idx c (o_var (i := 3) c rfl rfl) (o_var (i := 5) c rfl rfl)))) (ss_one (s_set (i := 6) c rfl rfl (e_sub (o_val (e_idx c (o_var (i := 4) c rfl rfl) (o_var (i := 5) c rfl rfl))) (o_val (e_idx c (o_var (i := 3) c rfl rfl) (o_var (i := 5) c rfl rfl)))) (o_var (i := 5) c rfl rfl) (fun _ => rfl))) ss_nil)
    (ss_one (s_if (t_cmp (cr_gt) (o_val (e_idx c (o_var (i := 3) c rfl rfl) (o_var (i := 5) c rfl rfl))) (o_val (e_idx c (o_var (i := 4) c rfl rfl) (o_var (i := 5) c rfl rfl)))) (ss_one (s_set (i := 7) c rfl rfl (e_sub (o_val (e_idx c (o_var (i := 3) c rfl rfl) (o_var (i := 5) c rfl rfl))) (o_val (e_idx c (o_var (i := 4) c rfl rfl) (o_var (i := 5) c rfl rfl)))) (o_var (i := 5) c rfl rfl) (fun _ => rfl))) ss_nil))))
    (ss_cons (s_if (PW.pt (w_or (t_cmp (cr_ne c) (o_val (e_call c (Nat.le_refl _) ((R.fn .fshort_of).pr _) rfl (a_cons (o_val (e_ty c (br_dict) rfl R.b_dict (by decide +kernel) (a_cons (o_var (i := 3) c rfl rfl) a_nil))) (a_cons (o_val (e_ty c (br_dict) rfl R.b_dict (by decide +kernel) (a_cons (o_var (i := 4) c rfl rfl) a_nil))) a_nil)) (al_cons (al_cons al_nil)))) (o_var (i := 6) c rfl rfl)) (w_or1 (t_cmp (cr_ne c) (o_val (e_call c (Nat.le_refl _) ((R.fn .fspare_of).pr _) rfl (a_cons (o_val (e_ty c (br_dict) rfl R.b_dict (by decide +kernel) (a_cons (o_var (i := 3) c rfl rfl) a_nil))) (a_cons (o_val (e_ty c (br_dict) rfl R.b_dict (by decide +kernel) (a_cons (o_var (i := 4) c rfl rfl) a_nil))) a_nil)) (al_cons (al_cons al_nil)))) (o_var (i := 7) c rfl rfl))))) (ss_one (s_ret e_bl)) ss_nil)
    (ss_cons (s_asg (i := 8) c rfl rfl (e_blt c (br_sum c) rfl R.b_sum (by decide +kernel) (a_cons (o_val (e_lcN (own := [("name", 5)]) (i := 6) c rfl rfl rfl (fun _ c1 => ⟨(g_name (i := 5) c1 rfl rfl), ts_nil, (e_idx c1 (o_var (i := 6) c1 rfl rfl) (o_var (i := 5) c1 rfl rfl))⟩))) a_nil)))
    (ss_cons (s_asg (i := 9) c rfl rfl (e_call c (Nat.le_refl _) ((R.fn .f_law_told).pr _) rfl (a_cons (o_val (e_ty c (br_dict) rfl R.b_dict (by decide +kernel) (a_cons (o_var (i := 3) c rfl rfl) a_nil))) (a_cons (o_val (e_ty c (br_dict) rfl R.b_dict (by decide +kernel) (a_cons (o_var (i := 4) c rfl rfl) a_nil))) a_nil)) (al_cons (al_cons al_nil))))
    (ss_cons (s_if (t_cmp (cr_gt) (o_var (i := 8) c rfl rfl) (o_val (e_blt c (br_sum c) rfl R.b_sum (by decide +kernel) (a_cons (o_val (e_lcN (own := [("name", 5)]) (i := 7) c rfl rfl rfl (fun _ c1 => ⟨(g_name (i := 5) c1 rfl rfl), ts_nil, (e_idx c1 (o_var (i := 7) c1 rfl rfl) (o_var (i := 5) c1 rfl rfl))⟩))) a_nil)))) (ss_one (s_ret (e_cmp (cr_is) (o_var (i := 9) c rfl rfl) (o_val e_non)))) ss_nil)
    (ss_cons (s_asg (i := 10) c rfl rfl (e_lst l_nil))
    (ss_cons (s_asg (i := 11) c rfl rfl (e_ty c (br_dict) rfl R.b_dict (by decide +kernel) (a_cons (o_var (i := 7) c rfl rfl) a_nil)))
    (ss_cons (s_forN (i := 2) c S.own rfl rfl (g_name (i := 5) c rfl rfl) (ss_one (s_if (t_cmp (cr_in c) (o_var (i := 5) c rfl rfl) (o_var (i := 6) c rfl rfl)) (ss_cons (s_asg (i := 14) c rfl rfl (e_idx c (o_var (i := 6) c rfl rfl) (o_var (i := 5) c rfl rfl)))
    (ss_one (s_forN (i := 2) c S.own rfl rfl (g_name (i := 15) c rfl rfl) (ss_one (s_if (PW.pt (w_and (t_cmp (cr_in c) (o_var (i := 15) c rfl rfl) (o_var (i := 11) c rfl rfl)) (w_and (t_cmp (cr_gt) (o_var (i := 14) c rfl rfl) (o_val e_int)) (w_and1 (t_cmp (cr_gt) (o_val (e_idx c (o_var (i := 11) c rfl rfl) (o_var (i := 15) c rfl rfl))) (o_val e_int)))))) (ss_cons (s_asg (i := 16) c rfl rfl (e_blt c (br_min c) rfl R.b_min (by decide +kernel) (a_cons (o_var (i := 14) c rfl rfl) (a_cons (o_val (e_idx c (o_var (i := 11) c rfl rfl) (o_var (i := 15) c rfl rfl))) a_nil))))
    (ss_cons (s_expr (e_meth (i := 10) c met_append PySem.F.slot_list_append PySem.F.type_list_append mt_append rfl rfl (l_cons (e_tup (l_cons (e_var (i := 15) c rfl rfl) (l_cons (e_var (i := 5) c rfl rfl) (l_cons (e_var (i := 16) c rfl rfl) l_nil)))) l_nil) rfl rfl (by decide) (by decide) (by decide) rfl rfl))
    (ss_cons (s_set (i := 11) c rfl rfl (e_sub (o_val (e_idx c (o_var (i := 11) c rfl rfl) (o_var (i := 15) c rfl rfl))) (o_var (i := 16) c rfl rfl)) (o_var (i := 15) c rfl rfl) (fun _ => rfl))
    (ss_one (s_asg (i := 14) c rfl rfl (e_sub (o_var (i := 14) c rfl rfl) (o_var (i := 16) c rfl rfl))))))) ss_nil))))) ss_nil)))
    (ss_cons (s_if (PW.pt (w_or (t_cmp (cr_ne c) (o_var (i := 9) c rfl rfl) (o_var (i := 10) c rfl rfl)) (w_or1 (t_cmp (cr_ne c) (o_val (e_call c (Nat.le_refl _) ((R.fn .fmoved_items).pr _) rfl (a_cons (o_val (e_ty c (br_list c) rfl R.b_list (by decide +kernel) (a_cons (o_var (i := 9) c rfl rfl) a_nil))) a_nil) (al_cons al_nil))) (o_var (i := 8) c rfl rfl))))) (ss_one (s_ret e_bl)) ss_nil)
    (ss_cons (s_asg (i := 12) c rfl rfl (e_call c (Nat.le_refl _) ((R.fn .fafter_transfers).pr _) rfl (a_cons (o_val (e_ty c (br_dict) rfl R.b_dict (by decide +kernel) (a_cons (o_var (i := 3) c rfl rfl) a_nil))) (a_cons (o_val (e_ty c (br_list c) rfl R.b_list (by decide +kernel) (a_cons (o_var (i := 9) c rfl rfl) a_nil))) a_nil)) (al_cons (al_cons al_nil))))
    (ss_cons (s_forN (i := 2) c S.own rfl rfl (g_name (i := 5) c rfl rfl) (ss_one (s_if (PW.pt (w_or (t_cmp (cr_lt) (o_val (e_idx c (o_var (i := 12) c rfl rfl) (o_var (i := 5) c rfl rfl))) (o_val (e_blt c (br_min c) rfl R.b_min (by decide +kernel) (a_cons (o_val (e_idx c (o_var (i := 4) c rfl rfl) (o_var (i := 5) c rfl rfl))) (a_cons (o_val (e_idx c (o_var (i := 3) c rfl rfl) (o_var (i := 5) c rfl rfl))) a_nil))))) (w_or (PW.pt (w_and (t_cmp (cr_in c) (o_var (i := 5) c rfl rfl) (o_var (i := 6) c rfl rfl)) (w_and1 (t_cmp (cr_ne c) (o_val (e_idx c (o_var (i := 12) c rfl rfl) (o_var (i := 5) c rfl rfl))) (o_val (e_idx c (o_var (i := 4) c rfl rfl) (o_var (i := 5) c rfl rfl))))))) (w_or1 (PW.pt (w_and (t_cmp (cr_in c) (o_var (i := 5) c rfl rfl) (o_var (i := 7) c rfl rfl)) (w_and1 (t_cmp (cr_lt) (o_val (e_idx c (o_var (i := 12) c rfl rfl) (o_var (i := 5) c rfl rfl))) (o_val (e_idx c (o_var (i := 4) c rfl rfl) (o_var (i := 5) c rfl rfl))))))))))) (ss_one (s_ret e_bl)) ss_nil)))
    (ss_cons (s_if (PW.pt (w_or (t_cmp (cr_ne c) (o_val (e_blt c (br_sum c) rfl R.b_sum (by decide +kernel) (a_cons (o_val (e_lcN (own := [("name", 5)]) (i := 2) c rfl rfl rfl (fun _ c1 => ⟨(g_name (i := 5) c1 rfl rfl), ts_nil, (e_idx c1 (o_var (i := 12) c1 rfl rfl) (o_var (i := 5) c1 rfl rfl))⟩))) a_nil))) (o_val (e_blt c (br_sum c) rfl R.b_sum (by decide +kernel) (a_cons (o_val (e_lcN (own := [("name", 5)]) (i := 2) c rfl rfl rfl (fun _ c1 => ⟨(g_name (i := 5) c1 rfl rfl), ts_nil, (e_idx c1 (o_var (i := 3) c1 rfl rfl) (o_var (i := 5) c1 rfl rfl))⟩))) a_nil)))) (w_or1 (t_cmp (cr_ne c) (o_val (e_call c (Nat.le_refl _) ((R.fn .fshort_of).pr _) rfl (a_cons (o_val (e_ty c (br_dict) rfl R.b_dict (by decide +kernel) (a_cons (o_var (i := 12) c rfl rfl) a_nil))) (a_cons (o_val (e_ty c (br_dict) rfl R.b_dict (by decide +kernel) (a_cons (o_var (i := 4) c rfl rfl) a_nil))) a_nil)) (al_cons (al_cons al_nil)))) (o_val e_dict0))))) (ss_one (s_ret e_bl)) ss_nil)
    (ss_one (s_ret (e_and c (e_cmp (cr_eq c) (o_val (e_call c (Nat.le_refl _) ((R.fn .f_law_told).pr _) rfl (a_cons (o_val e_dict0) (a_cons (o_val e_dict0) a_nil)) (al_cons (al_cons al_nil)))) (o_val (e_lst l_nil))) (e_and c (e_cmp (cr_eq c) (o_val (e_call c (Nat.le_refl _) ((R.fn .fmoved_items).pr _) rfl (a_cons (o_val (e_lst l_nil)) a_nil) (al_cons al_nil))) (o_val e_int)) (e_one (e_cmp (cr_eq c) (o_val (e_call c (Nat.le_refl _) ((R.fn .fafter_transfers).pr _) rfl (a_cons (o_val (e_disp (prs := [(cst (.str "sa"), cst (.int 5))]) (pps_cons (e_str (by decide +kernel)) e_int pps_nil) rfl rfl (by simp) (by decide))) (a_cons (o_val (e_lst l_nil)) a_nil)) (al_cons (al_cons al_nil)))) (o_val (e_disp (prs := [(cst (.str "sa"), cst (.int 5))]) (pps_cons (e_str (by decide +kernel)) e_int pps_nil) rfl rfl (by simp) (by decide))))))))))))))))))))))))))))
end
theorem scope : ∀ f, FnScope (slots f) (pars f) (defScope (stmt f))
  | .fshort_of => ⟨rfl, rfl, rfl, by decide +kernel, rfl, by decide +kernel, by decide +kernel⟩
  | .fspare_of => ⟨rfl, rfl, rfl, by decide +kernel, rfl, by decide +kernel, by decide +kernel⟩
  | .ftransfers => ⟨rfl, rfl, rfl, by decide +kernel, rfl, by decide +kernel, by decide +kernel⟩
  | .fafter_transfers => ⟨rfl, rfl, rfl, by decide +kernel, rfl, by decide +kernel, by decide +kernel⟩
  | .fmoved_items => ⟨rfl, rfl, rfl, by decide +kernel, rfl, by decide +kernel, by decide +kernel⟩
  | .f_law_state => ⟨rfl, rfl, rfl, by decide +kernel, rfl, by decide +kernel, by decide +kernel⟩
  | .f_law_draw => ⟨rfl, rfl, rfl, by decide +kernel, rfl, by decide +kernel, by decide +kernel⟩
  | .f_law_told => ⟨rfl, rfl, rfl, by decide +kernel, rfl, by decide +kernel, by decide +kernel⟩
  | .flaw => ⟨rfl, rfl, rfl, by decide +kernel, rfl, by decide +kernel, by decide +kernel⟩
theorem body {G : G0} {T : XT} {n : Nat} {C : Fn → List D → FRes} (R : Ctx G T n C) : ∀ (f : Fn) (W : WX) (X : Cx), Cok G (T.fn (mpar f)) W n (slots f) (defScope (stmt f)) fnT X → Sok X W → PSs X (defBody (stmt f)) (rS (T.fn (mpar f)) W (den C f))
  | .fshort_of, _, _, c, S => b_short_of R c S
  | .fspare_of, _, _, c, S => b_spare_of R c S
  | .ftransfers, _, _, c, S => b_transfers R c S
  | .fafter_transfers, _, _, c, S => b_after_transfers R c S
  | .fmoved_items, _, _, c, S => b_moved_items R c S
  | .f_law_state, _, _, c, S => b__law_state R c S
  | .f_law_draw, _, _, c, S => b__law_draw R c S
  | .f_law_told, _, _, c, S => b__law_told R c S
  | .flaw, _, _, c, S => b_law R c S
theorem all {G : G0} {T : XT} (E : Facts G T) (D1 : ∀ f, Def1 G T (name f) (stmt f) (pars f)) : ∀ (n : Nat) (f : Fn), FnIn G T n (name f) (pars f).length (mpar f) (run n f)
  | 0, f => fn_zero (D1 f)
  | n + 1, f => fn_succ (D1 f) (scope f) (body ⟨E, all E D1 n⟩ f)
end PKL
/-! k46: goods carried from shops that have to spare to shops that are short, in plain Lean. -/
namespace K46
open PySem
abbrev AL := List (Str × Int)
abbrev Mv := List (Str × Str × Int)
def mn (i j : Int) : Int := if j < i then j else i
def serve : Int → AL → AL × AL × Int
  | w, [] => ([], [], w)
  | w, (o, l) :: r => if mn w l > 0 then ((o, mn w l) :: (serve (w - mn w l) r).1, (o, l - mn w l) :: (serve (w - mn w l) r).2.1, (serve (w - mn w l) r).2.2) else ((serve w r).1, (o, l) :: (serve w r).2.1, (serve w r).2.2)
def tag (s : Str) (m : AL) : Mv := m.map fun p => (p.1, s, p.2)
def due : AL → AL → Mv × AL
  | [], ls => ([], ls)
  | (s, w) :: r, ls => (tag s (serve w ls).1 ++ (due r (serve w ls).2.1).1, (due r (serve w ls).2.1).2)
def fails : AL → AL → Bool
  | [], _ => false
  | (s, w) :: r, ls => decide ((serve w ls).2.2 > 0) || fails r (serve w ls).2.1
def tot (l : AL) : Int := (l.map (·.2)).sum
def val (l : AL) (n : Str) : Int := (l.lookup n).getD 0
def outS : Mv → Str → Int
  | [], _ => 0
  | (s, _, i) :: r, n => (if s = n then i else 0) + outS r n
def inS : Mv → Str → Int
  | [], _ => 0
  | (_, g, i) :: r, n => (if g = n then i else 0) + inS r n
theorem tot_nil : tot [] = 0 := rfl
theorem tot_cons (p : Str × Int) (l : AL) : tot (p :: l) = p.2 + tot l := by simp [tot]
theorem tot_nonneg : ∀ {l : AL}, (∀ p ∈ l, 0 ≤ p.2) → 0 ≤ tot l
  | [], _ => by simp [tot]
  | p :: l, h => by
    rw [tot_cons]
    have h1 := h p List.mem_cons_self
    have h2 := tot_nonneg (l := l) fun q hq => h q (List.mem_cons_of_mem _ hq)
    omega
theorem serve_spec : ∀ {ls : AL} {w : Int}, (∀ p ∈ ls, 0 ≤ p.2) → 0 ≤ w →
    tot (serve w ls).1 = w - (serve w ls).2.2 ∧ tot (serve w ls).2.1 = tot ls - tot (serve w ls).1 ∧ 0 ≤ (serve w ls).2.2 ∧ (∀ p ∈ (serve w ls).2.1, 0 ≤ p.2) ∧ ((serve w ls).2.2 > 0 → tot (serve w ls).2.1 = 0) ∧
      (serve w ls).2.1.map (·.1) = ls.map (·.1) ∧ (serve w ls).2.2 ≤ w
  | [], w, _, hw => by
    refine ⟨by simp [serve, tot], by simp [serve, tot], hw, fun p hp => by simp [serve] at hp, fun _ => by simp [serve, tot], rfl, Int.le_refl _⟩
  | (o, l) :: r, w, h, hw => by
    have hl : 0 ≤ l := h (o, l) List.mem_cons_self
    have hr : ∀ p ∈ r, 0 ≤ p.2 := fun q hq => h q (List.mem_cons_of_mem _ hq)
    by_cases hg : mn w l > 0
    · have h1 : 0 ≤ w - mn w l := by unfold mn at *; split <;> omega
      have h2 : 0 ≤ l - mn w l := by unfold mn at *; split <;> omega
      obtain ⟨i1, i2, i3, i4, i5, i6, i7⟩ := serve_spec (ls := r) (w := w - mn w l) hr h1
      unfold serve
      simp only [if_pos hg]
      refine ⟨?_, ?_, i3, ?_, fun q => ?_, ?_, by omega⟩
      · rw [tot_cons, i1]; simp only; omega
      · rw [tot_cons, tot_cons, tot_cons, i2]; simp only; omega
      · intro p hp
        rcases List.mem_cons.mp hp with rfl | hp
        · exact h2
        · exact i4 p hp
      · rw [tot_cons, i5 q]
        have : w - mn w l > 0 := by omega
        show l - mn w l + 0 = 0
        unfold mn at *
        split <;> omega
      · rw [List.map_cons, List.map_cons, i6]
    · obtain ⟨i1, i2, i3, i4, i5, i6, i7⟩ := serve_spec (ls := r) (w := w) hr hw
      unfold serve
      simp only [if_neg hg]
      refine ⟨i1, ?_, i3, ?_, fun q => ?_, ?_, i7⟩
      · rw [tot_cons, tot_cons, i2]; omega
      · intro p hp
        rcases List.mem_cons.mp hp with rfl | hp
        · exact hl
        · exact i4 p hp
      · rw [tot_cons, i5 q]
        show l + 0 = 0
        unfold mn at *
        split at hg <;> omega
      · rw [List.map_cons, List.map_cons, i6]
theorem fails_iff : ∀ {ss ls : AL}, (∀ p ∈ ss, 0 ≤ p.2) → (∀ p ∈ ls, 0 ≤ p.2) → (fails ss ls = true ↔ tot ls < tot ss)
  | [], ls, _, h => by
    have := tot_nonneg h
    simp [fails, tot_nil]; omega
  | (s, w) :: r, ls, hs, hl => by
    have hw : 0 ≤ w := hs (s, w) List.mem_cons_self
    have hr : ∀ p ∈ r, 0 ≤ p.2 := fun q hq => hs q (List.mem_cons_of_mem _ hq)
    obtain ⟨i1, i2, i3, i4, i5, i6, i7⟩ := serve_spec (ls := ls) (w := w) hl hw
    have ih := fails_iff hr i4
    have hrn := tot_nonneg hr
    unfold fails
    rw [Bool.or_eq_true, decide_eq_true_eq, ih, tot_cons]
    constructor
    · rintro (q | q)
      · have := i5 q
        show tot ls < w + tot r
        omega
      · show tot ls < w + tot r
        omega
    · intro q
      have q : tot ls < w + tot r := q
      by_cases z : (serve w ls).2.2 > 0
      · exact .inl z
      · right; omega
theorem val_nil (n : Str) : val [] n = 0 := rfl
theorem val_cons (o : Str) (l : Int) (r : AL) (n : Str) : val ((o, l) :: r) n = if n = o then l else val r n := by
  unfold val
  rw [List.lookup_cons]
  by_cases h : n = o
  · subst h; simp
  · rw [if_neg h, beq_false_of_ne h]
theorem val_out : ∀ {l : AL} {n : Str}, n ∉ l.map (·.1) → val l n = 0
  | [], _, _ => rfl
  | (o, x) :: r, n, h => by
    rw [List.map_cons, List.mem_cons, not_or] at h
    rw [val_cons, if_neg h.1]
    exact val_out h.2
theorem outS_app : ∀ (a b : Mv) (n : Str), outS (a ++ b) n = outS a n + outS b n
  | [], b, n => by simp [outS]
  | (s, g, i) :: a, b, n => by rw [List.cons_append, outS, outS, outS_app a b n]; omega
theorem inS_app : ∀ (a b : Mv) (n : Str), inS (a ++ b) n = inS a n + inS b n
  | [], b, n => by simp [inS]
  | (s, g, i) :: a, b, n => by rw [List.cons_append, inS, inS, inS_app a b n]; omega
theorem out_tag_none (s : Str) {n : Str} : ∀ {m : AL}, n ∉ m.map (·.1) → outS (tag s m) n = 0
  | [], _ => rfl
  | (o, x) :: r, h => by
    rw [List.map_cons, List.mem_cons, not_or] at h
    show (if o = n then x else 0) + outS (tag s r) n = 0
    rw [if_neg (fun e => h.1 e.symm), out_tag_none s h.2]; rfl
theorem serve_sub : ∀ (ls : AL) (w : Int), ((serve w ls).1.map (·.1)).Sublist (ls.map (·.1))
  | [], w => by simp [serve]
  | (o, l) :: r, w => by
    unfold serve
    split
    · exact (serve_sub r _).cons_cons o
    · exact (serve_sub r _).cons o
theorem serve_keys : ∀ (ls : AL) (w : Int), (serve w ls).2.1.map (·.1) = ls.map (·.1)
  | [], w => rfl
  | (o, l) :: r, w => by
    unfold serve
    split
    · show o :: ((serve _ r).2.1).map (·.1) = _
      rw [serve_keys r]; rfl
    · show o :: ((serve _ r).2.1).map (·.1) = _
      rw [serve_keys r]; rfl
theorem serve_out (s : Str) : ∀ {ls : AL} {w : Int} (n : Str), (ls.map (·.1)).Nodup → outS (tag s (serve w ls).1) n = val ls n - val (serve w ls).2.1 n
  | [], w, n, _ => by simp [serve, tag, outS, val_nil]
  | (o, l) :: r, w, n, h => by
    rw [List.map_cons, List.nodup_cons] at h
    unfold serve
    split
    · rename_i hg
      have ih := serve_out s (ls := r) (w := w - mn w l) n h.2
      show (if o = n then mn w l else 0) + outS (tag s (serve (w - mn w l) r).1) n = val ((o, l) :: r) n - val ((o, l - mn w l) :: (serve (w - mn w l) r).2.1) n
      rw [val_cons, val_cons, ih]
      by_cases e : n = o
      · subst e
        rw [if_pos rfl, if_pos rfl, if_pos rfl, val_out h.1, val_out (by rw [serve_keys]; exact h.1)]
        omega
      · rw [if_neg (fun z => e z.symm), if_neg e, if_neg e]; omega
    · have ih := serve_out s (ls := r) (w := w) n h.2
      show outS (tag s (serve w r).1) n = val ((o, l) :: r) n - val ((o, l) :: (serve w r).2.1) n
      rw [val_cons, val_cons, ih]
      by_cases e : n = o
      · subst e
        rw [if_pos rfl, if_pos rfl, val_out h.1, val_out (by rw [serve_keys]; exact h.1)]
        omega
      · rw [if_neg e, if_neg e]
theorem tag_in (s : Str) (n : Str) : ∀ m : AL, inS (tag s m) n = if s = n then tot m else 0
  | [] => by simp [tag, inS, tot]
  | (o, x) :: r => by
    show (if s = n then x else 0) + inS (tag s r) n = _
    rw [tag_in s n r, tot_cons]
    split <;> omega
theorem due_out : ∀ {ss ls : AL} (n : Str), (ls.map (·.1)).Nodup → outS (due ss ls).1 n = val ls n - val (due ss ls).2 n
  | [], ls, n, _ => by simp [due, outS]
  | (s, w) :: r, ls, n, h => by
    unfold due
    rw [outS_app, serve_out s n h, due_out n (by rw [serve_keys]; exact h)]
    simp only; omega
theorem due_keys : ∀ (ss ls : AL), (due ss ls).2.map (·.1) = ls.map (·.1)
  | [], ls => rfl
  | (s, w) :: r, ls => by
    unfold due
    show (due r _).2.map (·.1) = _
    rw [due_keys r, serve_keys]
theorem due_nn : ∀ {ss ls : AL}, (∀ p ∈ ss, 0 ≤ p.2) → (∀ p ∈ ls, 0 ≤ p.2) → ∀ p ∈ (due ss ls).2, 0 ≤ p.2
  | [], ls, _, h => h
  | (s, w) :: r, ls, hs, hl => by
    show ∀ p ∈ (due r (serve w ls).2.1).2, 0 ≤ p.2
    exact due_nn (ss := r) (fun q hq => hs q (List.mem_cons_of_mem _ hq)) (serve_spec hl (hs (s, w) List.mem_cons_self)).2.2.2.1
theorem due_in : ∀ {ss ls : AL} (n : Str), (∀ p ∈ ss, 0 ≤ p.2) → (∀ p ∈ ls, 0 ≤ p.2) → (ss.map (·.1)).Nodup → fails ss ls = false → inS (due ss ls).1 n = val ss n
  | [], ls, n, _, _, _, _ => rfl
  | (s, w) :: r, ls, n, hs, hl, hn, hf => by
    rw [List.map_cons, List.nodup_cons] at hn
    have hw : 0 ≤ w := hs (s, w) List.mem_cons_self
    have hr : ∀ p ∈ r, 0 ≤ p.2 := fun q hq => hs q (List.mem_cons_of_mem _ hq)
    obtain ⟨i1, i2, i3, i4, i5, i6, i7⟩ := serve_spec (ls := ls) (w := w) hl hw
    unfold fails at hf
    rw [Bool.or_eq_false_iff, decide_eq_false_iff_not] at hf
    unfold due
    rw [inS_app, tag_in, due_in n hr i4 hn.2 hf.2, val_cons, i1]
    by_cases e : s = n
    · subst e
      rw [if_pos rfl, if_pos rfl, val_out hn.1]; omega
    · rw [if_neg e, if_neg (fun z => e z.symm)]; omega
def mtot (f : Mv) : Int := (f.map (·.2.2)).sum
theorem mtot_app (a b : Mv) : mtot (a ++ b) = mtot a + mtot b := by simp [mtot]
theorem mtot_tag (s : Str) (m : AL) : mtot (tag s m) = tot m := by
  unfold mtot tag tot
  rw [List.map_map]; rfl
theorem due_tot : ∀ {ss ls : AL}, (∀ p ∈ ss, 0 ≤ p.2) → (∀ p ∈ ls, 0 ≤ p.2) → fails ss ls = false → mtot (due ss ls).1 = tot ss ∧ tot (due ss ls).2 = tot ls - tot ss
  | [], ls, _, _, _ => by simp [due, mtot, tot_nil]
  | (s, w) :: r, ls, hs, hl, hf => by
    have hw : 0 ≤ w := hs (s, w) List.mem_cons_self
    have hr : ∀ p ∈ r, 0 ≤ p.2 := fun q hq => hs q (List.mem_cons_of_mem _ hq)
    obtain ⟨i1, i2, i3, i4, i5, i6, i7⟩ := serve_spec (ls := ls) (w := w) hl hw
    unfold fails at hf
    rw [Bool.or_eq_false_iff, decide_eq_false_iff_not] at hf
    obtain ⟨j1, j2⟩ := due_tot hr i4 hf.2
    unfold due
    rw [mtot_app, mtot_tag, j1, j2, tot_cons, i1]
    simp only
    constructor <;> omega
/-! ### the rows: name, have, need -/
abbrev Row := Str × Int × Int
def hv (rows : List Row) : AL := rows.map fun r => (r.1, r.2.1)
def nd (rows : List Row) : AL := rows.map fun r => (r.1, r.2.2)
def sh (rows : List Row) : AL := (rows.filter fun r => decide (r.2.1 < r.2.2)).map fun r => (r.1, r.2.2 - r.2.1)
def sp (rows : List Row) : AL := (rows.filter fun r => decide (r.2.2 < r.2.1)).map fun r => (r.1, r.2.1 - r.2.2)
def nms (rows : List Row) : List Str := rows.map (·.1)
theorem sh_pos {rows : List Row} : ∀ p ∈ sh rows, 0 < p.2 := by
  intro p hp
  obtain ⟨r, hr, rfl⟩ := List.mem_map.mp hp
  have := of_decide_eq_true (List.mem_filter.mp hr).2
  show 0 < r.2.2 - r.2.1
  omega
theorem sp_pos {rows : List Row} : ∀ p ∈ sp rows, 0 < p.2 := by
  intro p hp
  obtain ⟨r, hr, rfl⟩ := List.mem_map.mp hp
  have := of_decide_eq_true (List.mem_filter.mp hr).2
  show 0 < r.2.1 - r.2.2
  omega
theorem sh_sub (rows : List Row) : ((sh rows).map (·.1)).Sublist (nms rows) := by
  unfold sh nms
  rw [List.map_map]
  exact (List.filter_sublist).map _
theorem sp_sub (rows : List Row) : ((sp rows).map (·.1)).Sublist (nms rows) := by
  unfold sp nms
  rw [List.map_map]
  exact (List.filter_sublist).map _
theorem sh_cons (r : Row) (rows : List Row) : sh (r :: rows) = if r.2.1 < r.2.2 then (r.1, r.2.2 - r.2.1) :: sh rows else sh rows := by
  unfold sh
  rw [List.filter_cons]
  by_cases h : r.2.1 < r.2.2
  · rw [if_pos (decide_eq_true h), if_pos h]; rfl
  · rw [if_neg (by simpa using h), if_neg h]
theorem sp_cons (r : Row) (rows : List Row) : sp (r :: rows) = if r.2.2 < r.2.1 then (r.1, r.2.1 - r.2.2) :: sp rows else sp rows := by
  unfold sp
  rw [List.filter_cons]
  by_cases h : r.2.2 < r.2.1
  · rw [if_pos (decide_eq_true h), if_pos h]; rfl
  · rw [if_neg (by simpa using h), if_neg h]
theorem hv_keys (rows : List Row) : (hv rows).map (·.1) = nms rows := by
  unfold hv nms; rw [List.map_map]; rfl
theorem nd_keys (rows : List Row) : (nd rows).map (·.1) = nms rows := by
  unfold nd nms; rw [List.map_map]; rfl
theorem balance : ∀ {rows : List Row} (n : Str), (nms rows).Nodup → val (hv rows) n - val (sp rows) n + val (sh rows) n = val (nd rows) n
  | [], n, _ => rfl
  | r :: rows, n, h => by
    have h' : r.1 ∉ nms rows ∧ (nms rows).Nodup := by
      unfold nms at h
      rw [List.map_cons, List.nodup_cons] at h
      exact h
    have ih := balance (rows := rows) n h'.2
    have o1 : n = r.1 → val (hv rows) n = 0 ∧ val (nd rows) n = 0 ∧ val (sh rows) n = 0 ∧ val (sp rows) n = 0 := fun e => by
      subst e
      exact ⟨val_out (by rw [hv_keys]; exact h'.1), val_out (by rw [nd_keys]; exact h'.1), val_out fun m => h'.1 ((sh_sub rows).subset m), val_out fun m => h'.1 ((sp_sub rows).subset m)⟩
    have e1 : hv (r :: rows) = (r.1, r.2.1) :: hv rows := rfl
    have e2 : nd (r :: rows) = (r.1, r.2.2) :: nd rows := rfl
    rw [e1, e2, sh_cons, sp_cons, val_cons, val_cons]
    by_cases e : n = r.1
    · obtain ⟨_, _, z3, z4⟩ := o1 e
      rw [if_pos e, if_pos e]
      split
      · split
        · omega
        · rw [val_cons, if_pos e, z3]; omega
      · split
        · rw [val_cons, if_pos e, z4]; omega
        · omega
    · rw [if_neg e, if_neg e]
      split <;> split <;> (try rw [val_cons, if_neg e]) <;> (try rw [val_cons, if_neg e]) <;> exact ih
/-! ### moves carried out -/
def aput (A : AL) (n : Str) (f : Int → Int) : AL := A.map fun p => if p.1 = n then (p.1, f p.2) else p
def mv1 (A : AL) (m : Str × Str × Int) : AL := aput (aput A m.1 fun x => x - m.2.2) m.2.1 fun x => x + m.2.2
def appM (A : AL) (f : Mv) : AL := f.foldl mv1 A
theorem aput_keys (A : AL) (n : Str) (f : Int → Int) : (aput A n f).map (·.1) = A.map (·.1) := by
  unfold aput
  rw [List.map_map]
  apply List.map_congr_left
  intro p _
  show (if p.1 = n then (p.1, f p.2) else p).1 = p.1
  split <;> rfl
theorem aput_val {n k : Str} {f : Int → Int} : ∀ {A : AL}, k ∈ A.map (·.1) → val (aput A n f) k = if k = n then f (val A k) else val A k
  | (o, x) :: r, h => by
    have e0 : aput ((o, x) :: r) n f = (if o = n then (o, f x) else (o, x)) :: aput r n f := rfl
    rw [e0]
    by_cases e : k = o
    · subst e
      by_cases z : k = n
      · rw [if_pos z, val_cons, if_pos rfl, if_pos z, val_cons, if_pos rfl]
      · rw [if_neg z, val_cons, if_pos rfl, if_neg z, val_cons, if_pos rfl]
    · have h' : k ∈ r.map (·.1) := by
        rw [List.map_cons, List.mem_cons] at h
        exact h.resolve_left e
      have ih := aput_val (n := n) (f := f) h'
      have : val ((if o = n then (o, f x) else (o, x)) :: aput r n f) k = val (aput r n f) k := by
        split <;> rw [val_cons, if_neg e]
      rw [this, ih, val_cons, if_neg e]
theorem appM_keys : ∀ (f : Mv) (A : AL), (appM A f).map (·.1) = A.map (·.1)
  | [], A => rfl
  | m :: f, A => by
    show (appM (mv1 A m) f).map (·.1) = _
    rw [appM_keys f]
    unfold mv1
    rw [aput_keys, aput_keys]
theorem appM_val : ∀ (f : Mv) {A : AL} {n : Str}, n ∈ A.map (·.1) → val (appM A f) n = val A n - outS f n + inS f n
  | [], A, n, _ => by show val A n = val A n - 0 + 0; omega
  | (s, g, i) :: f, A, n, h => by
    show val (appM (mv1 A (s, g, i)) f) n = _
    have k1 : (mv1 A (s, g, i)).map (·.1) = A.map (·.1) := by unfold mv1; rw [aput_keys, aput_keys]
    rw [appM_val f (by rw [k1]; exact h)]
    have e1 : val (mv1 A (s, g, i)) n = val A n - (if s = n then i else 0) + (if g = n then i else 0) := by
      unfold mv1
      rw [aput_val (by rw [aput_keys]; exact h), aput_val h]
      simp only
      by_cases a : n = s
      · by_cases b : n = g
        · rw [if_pos b, if_pos a, if_pos a.symm, if_pos b.symm]
        · rw [if_neg b, if_pos a, if_pos a.symm, if_neg (fun z => b z.symm)]; omega
      · by_cases b : n = g
        · rw [if_pos b, if_neg a, if_neg (fun z => a z.symm), if_pos b.symm]; omega
        · rw [if_neg b, if_neg a, if_neg (fun z => a z.symm), if_neg (fun z => b z.symm)]; omega
    rw [e1]
    show _ = val A n - ((if s = n then i else 0) + outS f n) + ((if g = n then i else 0) + inS f n)
    omega
theorem sum_zero : ∀ ns : List Str, (ns.map fun _ => (0 : Int)).sum = 0
  | [] => rfl
  | _ :: ns => by rw [List.map_cons, List.sum_cons, sum_zero ns]; rfl
theorem sum_one {s : Str} {i : Int} : ∀ {ns : List Str}, ns.Nodup → s ∈ ns → (ns.map fun n => if s = n then i else 0).sum = i
  | n :: ns, h, m => by
    rw [List.nodup_cons] at h
    rw [List.map_cons, List.sum_cons]
    have z : s ∉ ns → (ns.map fun n => if s = n then i else 0).sum = 0 := fun hn => by
      have : (ns.map fun n => if s = n then i else 0) = ns.map fun _ => 0 := List.map_congr_left fun k hk => if_neg fun e => hn (by rw [e]; exact hk)
      rw [this]
      clear this hn h m
      induction ns with
      | nil => rfl
      | cons _ _ ih => rw [List.map_cons, List.sum_cons, ih]; rfl
    by_cases e : s = n
    · subst e
      rw [if_pos rfl, z h.1]; omega
    · rw [if_neg e, sum_one h.2 ((List.mem_cons.mp m).resolve_left e)]; omega
theorem sum_add (f g : Str → Int) : ∀ ns : List Str, (ns.map fun n => f n + g n).sum = (ns.map f).sum + (ns.map g).sum
  | [] => rfl
  | n :: ns => by rw [List.map_cons, List.map_cons, List.map_cons, List.sum_cons, List.sum_cons, List.sum_cons, sum_add f g ns]; omega
theorem sum_out {ns : List Str} (h : ns.Nodup) : ∀ {f : Mv}, (∀ m ∈ f, m.1 ∈ ns) → (ns.map (outS f)).sum = mtot f
  | [], _ => by
    exact sum_zero ns
  | (s, g, i) :: f, hm => by
    show (ns.map fun n => (if s = n then i else 0) + outS f n).sum = _
    rw [sum_add, sum_one h (hm (s, g, i) List.mem_cons_self), sum_out h fun m k => hm m (List.mem_cons_of_mem _ k)]
    simp [mtot]
theorem sum_in {ns : List Str} (h : ns.Nodup) : ∀ {f : Mv}, (∀ m ∈ f, m.2.1 ∈ ns) → (ns.map (inS f)).sum = mtot f
  | [], _ => by
    exact sum_zero ns
  | (s, g, i) :: f, hm => by
    show (ns.map fun n => (if g = n then i else 0) + inS f n).sum = _
    rw [sum_add, sum_one h (hm (s, g, i) List.mem_cons_self), sum_in h fun m k => hm m (List.mem_cons_of_mem _ k)]
    simp [mtot]
theorem due_mem : ∀ {ss ls : AL} {m : Str × Str × Int}, m ∈ (due ss ls).1 → m.1 ∈ ls.map (·.1) ∧ m.2.1 ∈ ss.map (·.1)
  | (s, w) :: r, ls, m, h => by
    unfold due at h
    rcases List.mem_append.mp h with h | h
    · unfold tag at h
      obtain ⟨p, hp, rfl⟩ := List.mem_map.mp h
      exact ⟨(serve_sub ls w).subset (List.mem_map.mpr ⟨p, hp, rfl⟩), List.mem_cons_self⟩
    · obtain ⟨h1, h2⟩ := due_mem h
      rw [serve_keys] at h1
      exact ⟨h1, List.mem_cons_of_mem _ h2⟩
/-- what stands behind all moves: the need, and what is left to spare -/
theorem after_val {rows : List Row} (hn : (nms rows).Nodup) (hf : fails (sh rows) (sp rows) = false) {n : Str} (m : n ∈ nms rows) :
    val (appM (hv rows) (due (sh rows) (sp rows)).1) n = val (nd rows) n + val (due (sh rows) (sp rows)).2 n := by
  have n1 := hn.sublist (sh_sub rows)
  have n2 := hn.sublist (sp_sub rows)
  have p1 : ∀ p ∈ sh rows, 0 ≤ p.2 := fun p h => Int.le_of_lt (sh_pos p h)
  have p2 : ∀ p ∈ sp rows, 0 ≤ p.2 := fun p h => Int.le_of_lt (sp_pos p h)
  rw [appM_val _ (by rw [hv_keys]; exact m), due_out n n2, due_in n p1 p2 n1 hf, ← balance n hn]
  omega
theorem after_sum {rows : List Row} (hn : (nms rows).Nodup) (f : Mv) (h1 : ∀ m ∈ f, m.1 ∈ nms rows) (h2 : ∀ m ∈ f, m.2.1 ∈ nms rows) : ((nms rows).map (val (appM (hv rows) f))).sum = ((nms rows).map (val (hv rows))).sum := by
  have e : (nms rows).map (val (appM (hv rows) f)) = (nms rows).map fun n => (val (hv rows) n + -outS f n) + inS f n := List.map_congr_left fun n m => by
    rw [appM_val f (by rw [hv_keys]; exact m)]; omega
  rw [e, sum_add, sum_add, sum_in hn h2]
  have e2 : ((nms rows).map fun n => -outS f n).sum = -mtot f := by
    rw [← sum_out hn h1]
    generalize nms rows = ns
    induction ns with
    | nil => rfl
    | cons a b ih => rw [List.map_cons, List.map_cons, List.sum_cons, List.sum_cons, ih]; omega
  rw [e2]
  have e3 : ((nms rows).map fun n => val (hv rows) n) = (nms rows).map (val (hv rows)) := rfl
  rw [e3]; omega
theorem val_nn {l : AL} (h : ∀ p ∈ l, 0 ≤ p.2) (n : Str) : 0 ≤ val l n := by
  induction l with
  | nil => exact Int.le_refl 0
  | cons p r ih =>
    obtain ⟨o, x⟩ := p
    rw [val_cons]
    split
    · exact h (o, x) List.mem_cons_self
    · exact ih fun q hq => h q (List.mem_cons_of_mem _ hq)
end K46
set_option maxHeartbeats 4000000
namespace PKL
open PySem PySem.Spec PyProof.Rows L2 PK K46
def isS (f : Str → Bool) : D → Bool
  | .str n => f n
  | _ => false
def onS (f : Str → D) : D → D
  | .str n => f n
  | _ => .none
theorem run_diff {ns : List Str} {a b : Str → Int} (hs : SortN ns) (hn : ns.Nodup) (hl : ns.length ≤ 1000) {ρ0 : En} (he : ρ0 = [some (false, encA (mkA ns a)), some (false, encA (mkA ns b)), none]) :
    dcL [2] (pN (prV [2]) 2) (tstB (op2 (oE (op2 (oV 1) (oV 2) idxG)) (oE (op2 (oV 0) (oV 2) idxG)) gtG)) (rV 2) (op2 (oE (op2 (oV 1) (oV 2) idxG)) (oE (op2 (oV 0) (oV 2) idxG)) subG) [] (strL ns) ρ0 = .ok ((mkA (ns.filter fun n => decide (a n < b n)) fun n => b n - a n).map fun p => (.str p.1, .int p.2)) ρ0 := by
  subst he
  rw [dcL_pure (p := isS fun n => decide (a n < b n)) (k := id) (v := onS fun n => .int (b n - a n))]
  · rw [filter_strL (fun n => decide (a n < b n)) _ fun _ => rfl]
    unfold strL
    rw [List.foldl_map]
    exact congrArg (fun x => Res.ok x _) (fold_new (A := []) (hn.sublist List.filter_sublist))
  · unfold strL; rw [List.length_map]; show 0 + ns.length ≤ 16777216; omega
  · intro d hd
    obtain ⟨n, hm, rfl⟩ := List.mem_map.mp hd
    have ea := idx_mk (f := a) hm
    have eb := idx_mk (f := b) hm
    exact ⟨[some (false, encA (mkA ns a)), some (false, encA (mkA ns b)), some (false, .str n)], false, false, rfl, tst_ok (op2_ok (oE_ok (op2_ok rfl rfl rfl rfl eb)) (oE_ok (op2_ok rfl rfl rfl rfl ea)) rfl rfl rfl), rfl, fun _ => ⟨rfl, op2_ok (oE_ok (op2_ok rfl rfl rfl rfl eb)) (oE_ok (op2_ok rfl rfl rfl rfl ea)) rfl rfl rfl, rfl⟩⟩
theorem run_short {k : Nat} {ns : List Str} {a b : Str → Int} (hs : SortN ns) (hn : ns.Nodup) (hl : ns.length ≤ 1000) : run (k + 1) .fshort_of [encA (mkA ns a), encA (mkA ns b)] = .ok true (encA (mkA (ns.filter fun n => decide (a n < b n)) fun n => b n - a n)) none := by
  show endF none (D_short_of (run k) [some (false, encA (mkA ns a)), some (false, encA (mkA ns b)), none]) = _
  unfold D_short_of
  exact fin_ok (ret_ok (dc_ok (it_ok (opN_ok (aCons_ok rfl rfl) rfl (sorted_enc (A := mkA ns a) (by rw [mk_keys]; exact hs))) rfl) (by rw [mk_keys]; exact run_diff hs hn hl rfl))) rfl
theorem run_diff2 {ns : List Str} {a b : Str → Int} (hs : SortN ns) (hn : ns.Nodup) (hl : ns.length ≤ 1000) {ρ0 : En} (he : ρ0 = [some (false, encA (mkA ns a)), some (false, encA (mkA ns b)), none]) :
    dcL [2] (pN (prV [2]) 2) (tstB (op2 (oE (op2 (oV 0) (oV 2) idxG)) (oE (op2 (oV 1) (oV 2) idxG)) gtG)) (rV 2) (op2 (oE (op2 (oV 0) (oV 2) idxG)) (oE (op2 (oV 1) (oV 2) idxG)) subG) [] (strL ns) ρ0 = .ok ((mkA (ns.filter fun n => decide (b n < a n)) fun n => a n - b n).map fun p => (.str p.1, .int p.2)) ρ0 := by
  subst he
  rw [dcL_pure (p := isS fun n => decide (b n < a n)) (k := id) (v := onS fun n => .int (a n - b n))]
  · rw [filter_strL (fun n => decide (b n < a n)) _ fun _ => rfl]
    unfold strL
    rw [List.foldl_map]
    exact congrArg (fun x => Res.ok x _) (fold_new (A := []) (hn.sublist List.filter_sublist))
  · unfold strL; rw [List.length_map]; show 0 + ns.length ≤ 16777216; omega
  · intro d hd
    obtain ⟨n, hm, rfl⟩ := List.mem_map.mp hd
    have ea := idx_mk (f := a) hm
    have eb := idx_mk (f := b) hm
    exact ⟨[some (false, encA (mkA ns a)), some (false, encA (mkA ns b)), some (false, .str n)], false, false, rfl, tst_ok (op2_ok (oE_ok (op2_ok rfl rfl rfl rfl ea)) (oE_ok (op2_ok rfl rfl rfl rfl eb)) rfl rfl rfl), rfl, fun _ => ⟨rfl, op2_ok (oE_ok (op2_ok rfl rfl rfl rfl ea)) (oE_ok (op2_ok rfl rfl rfl rfl eb)) rfl rfl rfl, rfl⟩⟩
theorem run_spare {k : Nat} {ns : List Str} {a b : Str → Int} (hs : SortN ns) (hn : ns.Nodup) (hl : ns.length ≤ 1000) : run (k + 1) .fspare_of [encA (mkA ns a), encA (mkA ns b)] = .ok true (encA (mkA (ns.filter fun n => decide (b n < a n)) fun n => a n - b n)) none := by
  show endF none (D_spare_of (run k) [some (false, encA (mkA ns a)), some (false, encA (mkA ns b)), none]) = _
  unfold D_spare_of
  exact fin_ok (ret_ok (dc_ok (it_ok (opN_ok (aCons_ok rfl rfl) rfl (sorted_enc (A := mkA ns a) (by rw [mk_keys]; exact hs))) rfl) (by rw [mk_keys]; exact run_diff2 hs hn hl rfl))) rfl
def mvD (m : Str × Str × Int) : D := .tuple [.str m.1, .str m.2.1, .int m.2.2]
theorem serve_len : ∀ (ls : AL) (w : Int), (serve w ls).1.length ≤ ls.length
  | [], w => Nat.le_refl _
  | (o, l) :: r, w => by
    unfold serve
    split
    · exact Nat.succ_le_succ (serve_len r _)
    · exact Nat.le_succ_of_le (serve_len r _)
theorem due_len : ∀ (ss ls : AL), (due ss ls).1.length ≤ ss.length * ls.length
  | [], ls => Nat.zero_le _
  | (s, w) :: r, ls => by
    unfold due
    have h1 := serve_len ls w
    have h2 := due_len r (serve w ls).2.1
    have h3 : (serve w ls).2.1.length = ls.length := by have := congrArg List.length (serve_keys ls w); simpa using this
    rw [h3] at h2
    rw [List.length_append, List.length_cons, Nat.succ_mul]
    have h4 : (tag s (serve w ls).1).length = (serve w ls).1.length := by unfold tag; rw [List.length_map]
    omega
theorem nodup_mid {a b : AL} {s : Str} {w : Int} (h : ((a ++ (s, w) :: b).map (·.1)).Nodup) : s ∉ a.map (·.1) ∧ s ∉ b.map (·.1) := by
  rw [List.map_append, List.map_cons, List.nodup_append] at h
  obtain ⟨_, h2, h3⟩ := h
  exact ⟨fun m => h3 s m s List.mem_cons_self rfl, (List.nodup_cons.mp h2).1⟩
def inner : M Out := (seqM (asgM (prF none) 7 (opN (aCons (oE (op2 (oV 4) (oV 3) idxG)) (aCons (oE (op2 (oV 5) (oV 6) idxG)) (aNil))) minG)) <|
    ifM (tstB (op2 (oV 7) (oE (cst (.int 0))) gtG)) (seqM (exprM (methM 2 (lCons (tupM (lCons (rV 6) (lCons (rV 3) (lCons (rV 7) (lNil))))) (lNil)) appG)) <|
    seqM (augS 4 iSub (oV 3) (rV 7)) <|
    augS 5 iSub (oV 6) (rV 7)) nilM)
theorem inner_ok {c0 c1 c6 c7 : Ce} {f : Mv} {s : Str} {w : Int} {sd st ls : AL} {n : Nat} (hS : ((sd ++ (s, w) :: st).map (·.1)).Nodup) (hP : (ls.map (·.1)).Nodup) (hz : (sd ++ (s, w) :: st).length < LIM) (hy : ls.length < LIM) (hf : f.length + ls.length < LIM) :
    Post (loopL (pN (prF none) 6) inner (strL (ls.map (·.1))) [c0, c1, some (true, .list (f.map mvD)), some (false, .str s), some (true, encA (sd ++ (s, w) :: st)), some (true, encA ls), c6, c7])
      fun r => ∃ d6 d7, r = .ok .nxt [c0, c1, some (true, .list ((f ++ tag s (serve w ls).1).map mvD)), some (false, .str s), some (true, encA (sd ++ (s, (serve w ls).2.2) :: st)), some (true, encA (serve w ls).2.1), d6, d7] := by
  let F := f ++ tag s (serve w ls).1
  let L := (serve w ls).2.1
  let Wn := (serve w ls).2.2
  have l0 : ls.length = ls.length := rfl
  refine go_loop (P := fun rem ρ => ∃ (f' : Mv) (w' : Int) (ld lt : AL) (c6 c7 : Ce), rem = strL (lt.map (·.1)) ∧ ρ = [c0, c1, some (true, .list (f'.map mvD)), some (false, .str s), some (true, encA (sd ++ (s, w') :: st)), some (true, encA (ld ++ lt)), c6, c7] ∧ (ld ++ lt).map (·.1) = ls.map (·.1) ∧
      f' ++ tag s (serve w' lt).1 = F ∧ ld ++ (serve w' lt).2.1 = L ∧ (serve w' lt).2.2 = Wn) ?_ ?_ ⟨f, w, [], ls, c6, c7, rfl, rfl, rfl, rfl, rfl, rfl⟩
  · rintro ρ ⟨f', w', ld, lt, c6, c7, h1, rfl, h2, h3, h4, h5⟩
    cases lt with
    | cons p r => cases h1
    | nil =>
      have e3 : f' = F := (List.append_nil f').symm.trans h3
      have e4 : ld ++ [] = L := h4
      have e5 : w' = Wn := h5
      rw [e3, e4, e5]
      exact ⟨c6, c7, rfl⟩
  · rintro d ds ρ ⟨f', w', ld, lt, c6, c7, h1, rfl, h2, h3, h4, h5⟩
    cases lt with
    | nil => cases h1
    | cons p r =>
      obtain ⟨o, l⟩ := p
      cases h1
      have hP' : ((ld ++ (o, l) :: r).map (·.1)).Nodup := by rw [h2]; exact hP
      obtain ⟨n1, n2⟩ := nodup_mid hP'
      obtain ⟨m1, m2⟩ := nodup_mid hS
      have lenL : (ld ++ (o, l) :: r).length = ls.length := by have := congrArg List.length h2; simpa using this
      refine ⟨[c0, c1, some (true, .list (f'.map mvD)), some (false, .str s), some (true, encA (sd ++ (s, w') :: st)), some (true, encA (ld ++ (o, l) :: r)), some (false, .str o), c7], rfl, ?_⟩
      have e1 : idxG (encA (sd ++ (s, w') :: st)) (.str s) = some (false, .int w') := idx_enc (look_mid m1)
      have e2 : idxG (encA (ld ++ (o, l) :: r)) (.str o) = some (false, .int l) := idx_enc (look_mid n1)
      unfold inner
      refine go_nxt (asg_ok (opN_ok (aCons_ok (oE_ok (op2_ok rfl rfl rfl rfl e1)) (aCons_ok (oE_ok (op2_ok rfl rfl rfl rfl e2)) rfl)) rfl (r := (false, .int (mn w' l))) rfl) rfl) ?_
      refine go_if (t := decide (0 < mn w' l)) (ρ1 := [c0, c1, some (true, .list (f'.map mvD)), some (false, .str s), some (true, encA (sd ++ (s, w') :: st)), some (true, encA (ld ++ (o, l) :: r)), some (false, .str o), some (false, .int (mn w' l))]) rfl (fun hg => ?_) fun hg => ?_
      · have hg := of_decide_eq_true hg
        unfold serve at h3 h4 h5
        rw [if_pos hg] at h3 h4 h5
        have lf : (f'.map mvD).length < LIM := by
          rw [List.length_map]
          have := congrArg List.length h3
          have l1 : F.length ≤ f.length + ls.length := by
            show (f ++ tag s (serve w ls).1).length ≤ _
            rw [List.length_append]
            unfold tag
            rw [List.length_map]
            exact Nat.add_le_add_left (serve_len ls w) _
          rw [← this, List.length_append] at l1
          unfold LIM at *
          omega
        refine go_nxt (expr_ok (meth_ok rfl (lCons_ok (r := (false, mvD (o, s, mn w' l))) rfl rfl) rfl (app_ok' lf))) ?_
        refine go_nxt (augS_ok rfl rfl rfl rfl e1 rfl rfl rfl (z := .int (w' - mn w' l)) rfl ((set_old (by rw [List.map_append]; exact List.mem_append_right _ List.mem_cons_self) (by rw [List.length_append, List.length_cons] at hz ⊢; exact hz)).trans (by rw [aset_mid m1 m2]))) ?_
        refine go_end (augS_ok rfl rfl rfl rfl e2 rfl rfl rfl (z := .int (l - mn w' l)) rfl ((set_old (by rw [List.map_append]; exact List.mem_append_right _ List.mem_cons_self) (by rw [lenL]; exact hy)).trans (by rw [aset_mid n1 n2]))) ?_
        refine ⟨f' ++ [(o, s, mn w' l)], w' - mn w' l, ld ++ [(o, l - mn w' l)], r, some (false, .str o), some (false, .int (mn w' l)), rfl, ?_, ?_, ?_, ?_, h5⟩
        · rw [List.map_append, List.append_assoc]; rfl
        · rw [← h2]; simp
        · rw [List.append_assoc]; exact h3
        · rw [List.append_assoc]; exact h4
      · have hg := of_decide_eq_false hg
        unfold serve at h3 h4 h5
        rw [if_neg (by omega)] at h3 h4 h5
        refine go_end rfl ?_
        refine ⟨f', w', ld ++ [(o, l)], r, some (false, .str o), some (false, .int (mn w' l)), rfl, ?_, ?_, h3, ?_, h5⟩
        · rw [List.append_assoc]; rfl
        · rw [← h2, List.append_assoc]; rfl
        · rw [List.append_assoc]; exact h4
theorem sort_sub {ns ms : List Str} (h : SortN ns) (s : ms.Sublist ns) : SortN ms := List.Pairwise.sublist s h
def transD (S P : AL) : FRes := if fails S P then .err .np else .ok true (.list ((due S P).1.map mvD)) none
theorem run_trans {k : Nat} {ns : List Str} {a b : Str → Int} (hs : SortN ns) (hn : ns.Nodup) (hl : ns.length ≤ 1000) :
    run (k + 2) .ftransfers [encA (mkA ns a), encA (mkA ns b)] = transD (mkA (ns.filter fun n => decide (a n < b n)) fun n => b n - a n) (mkA (ns.filter fun n => decide (b n < a n)) fun n => a n - b n) := by
  have r1 := run_short (k := k) (a := a) (b := b) hs hn hl
  have r2 := run_spare (k := k) (a := a) (b := b) hs hn hl
  show endF none (D_transfers (run (k + 1)) [some (false, encA (mkA ns a)), some (false, encA (mkA ns b)), none, none, none, none, none, none]) = _
  generalize hA : encA (mkA ns a) = A at r1 r2 ⊢
  generalize hB : encA (mkA ns b) = B at r1 r2 ⊢
  have kS := mk_keys (ns.filter fun n => decide (a n < b n)) fun n => b n - a n
  have kP := mk_keys (ns.filter fun n => decide (b n < a n)) fun n => a n - b n
  generalize mkA (ns.filter fun n => decide (a n < b n)) (fun n => b n - a n) = S at r1 kS ⊢
  generalize mkA (ns.filter fun n => decide (b n < a n)) (fun n => a n - b n) = P at r2 kP ⊢
  have sS : SortN (S.map (·.1)) := by rw [kS]; exact sort_sub hs List.filter_sublist
  have sP : SortN (P.map (·.1)) := by rw [kP]; exact sort_sub hs List.filter_sublist
  have nS : (S.map (·.1)).Nodup := by rw [kS]; exact hn.sublist List.filter_sublist
  have nP : (P.map (·.1)).Nodup := by rw [kP]; exact hn.sublist List.filter_sublist
  have lS : S.length ≤ 1000 := by
    have := congrArg List.length kS
    rw [List.length_map] at this
    rw [this]
    exact Nat.le_trans (List.length_filter_le _ _) hl
  have lP : P.length ≤ 1000 := by
    have := congrArg List.length kP
    rw [List.length_map] at this
    rw [this]
    exact Nat.le_trans (List.length_filter_le _ _) hl
  have lD : (due S P).1.length + 1000 < LIM := by
    have h1 := due_len S P
    have h2 : S.length * P.length ≤ 1000 * 1000 := Nat.mul_le_mul lS lP
    unfold LIM; omega
  refine fin_post ?_
  unfold D_transfers
  refine go_nxt (par_ok rfl (callF_ok (aCons_ok rfl (aCons_ok rfl rfl)) rfl r1) (callF_ok (ρ1 := [some (false, A), some (false, B), none, none, none, none, none, none]) (aCons_ok rfl (aCons_ok rfl rfl)) rfl r2)) ?_
  refine go_nxt (ρ1 := [some (false, A), some (false, B), some (true, .list []), none, some (true, encA S), some (true, encA P), none, none]) rfl ?_
  refine go_seq (go_for (it_ok (opN_ok (aCons_ok rfl rfl) rfl (sorted_enc sS)) rfl) ?_)
  refine go_loop (P := fun rem ρ => ∃ (sd st ls : AL) (f : Mv) (c3 c6 c7 : Ce), rem = strL (st.map (·.1)) ∧ ρ = [some (false, A), some (false, B), some (true, .list (f.map mvD)), c3, some (true, encA (sd ++ st)), some (true, encA ls), c6, c7] ∧ (sd ++ st).map (·.1) = S.map (·.1) ∧
      ls.map (·.1) = P.map (·.1) ∧ f ++ (due st ls).1 = (due S P).1 ∧ fails st ls = fails S P) ?_ ?_ ⟨[], S, P, [], none, none, none, rfl, rfl, rfl, rfl, rfl, rfl⟩
  · rintro ρ ⟨sd, st, ls, f, c3, c6, c7, h1, rfl, h2, h3, h4, h5⟩
    cases st with
    | cons p r => cases h1
    | nil =>
      have e4 : f = (due S P).1 := (List.append_nil f).symm.trans h4
      have e5 : false = fails S P := h5
      refine go_end rfl ?_
      show FRes.ok true (.list (f.map mvD)) none = transD S P
      unfold transD
      rw [← e5, if_neg (by decide), e4]
  · rintro d ds ρ ⟨sd, st, ls, f, c3, c6, c7, h1, rfl, h2, h3, h4, h5⟩
    cases st with
    | nil => cases h1
    | cons p r =>
      obtain ⟨s, w⟩ := p
      cases h1
      have hS' : ((sd ++ (s, w) :: r).map (·.1)).Nodup := by rw [h2]; exact nS
      have hP' : (ls.map (·.1)).Nodup := by rw [h3]; exact nP
      obtain ⟨m1, m2⟩ := nodup_mid hS'
      have lenS : (sd ++ (s, w) :: r).length = S.length := by have := congrArg List.length h2; simpa using this
      have lenP : ls.length = P.length := by have := congrArg List.length h3; simpa using this
      have lenF : f.length ≤ (due S P).1.length := by rw [← h4, List.length_append]; exact Nat.le_add_right _ _
      refine ⟨[some (false, A), some (false, B), some (true, .list (f.map mvD)), some (false, .str s), some (true, encA (sd ++ (s, w) :: r)), some (true, encA ls), c6, c7], rfl, ?_⟩
      refine go_seq (go_for (it_ok (opN_ok (aCons_ok rfl rfl) rfl (sorted_enc (A := ls) (by rw [h3]; exact sP))) rfl) ?_)
      refine go_mono (inner_ok (n := 0) hS' hP' (by rw [lenS]; unfold LIM; omega) (by rw [lenP]; unfold LIM; omega) (by omega)) ?_
      rintro _ ⟨d6, d7, rfl⟩
      have e1 : idxG (encA (sd ++ (s, (serve w ls).2.2) :: r)) (.str s) = some (false, .int (serve w ls).2.2) := idx_enc (look_mid m1)
      show Post _ _
      refine go_if (tst_ok (op2_ok (oE_ok (op2_ok rfl rfl rfl rfl e1)) rfl rfl rfl (r := (false, .bool (decide (0 < (serve w ls).2.2)))) rfl)) (fun hg => ?_) fun hg => ?_
      · refine go_end rfl ?_
        have hg := of_decide_eq_true hg
        show FRes.err .np = transD S P
        unfold transD
        rw [← h5]
        unfold fails
        rw [decide_eq_true hg, Bool.true_or, if_pos rfl]
      · refine go_end rfl ?_
        refine ⟨sd ++ [(s, (serve w ls).2.2)], r, (serve w ls).2.1, f ++ tag s (serve w ls).1, some (false, .str s), d6, d7, rfl, ?_, ?_, ?_, ?_, ?_⟩
        · rw [List.append_assoc]; rfl
        · rw [← h2]; simp
        · rw [← h3, serve_keys]
        · rw [← h4, List.append_assoc]; rfl
        · rw [← h5]
          conv => rhs; unfold fails
          rw [hg, Bool.false_or]
theorem run_told {k : Nat} {A B : D} {S P : AL} (h : run (k + 1) .ftransfers [A, B] = transD S P) : run (k + 2) .f_law_told [A, B] = if fails S P then .ok false .none none else .ok true (.list ((due S P).1.map mvD)) none := by
  show endF none (D__law_told (run (k + 1)) [some (false, A), some (false, B)]) = _
  unfold transD at h
  unfold D__law_told
  cases e : fails S P with
  | true =>
    rw [e, if_pos rfl] at h
    rw [if_pos rfl]
    refine fin_ok (r := .ok (.ret false .none) [some (false, A), some (false, B)]) ?_ rfl
    unfold tryM
    have := callE_ok (C := run (k + 1) .ftransfers) (ms := aCons (oV 0) (aCons (oV 1) aNil)) (ρ := [some (false, A), some (false, B)]) (aCons_ok rfl (aCons_ok rfl rfl)) rfl h
    unfold retM bnd
    rw [this]
    rfl
  | false =>
    rw [e, if_neg (by decide)] at h
    rw [if_neg (by decide)]
    refine fin_ok (r := .ok (.ret true (.list ((due S P).1.map mvD))) [some (false, A), some (false, B)]) ?_ rfl
    unfold tryM
    rw [ret_ok (callF_ok (C := run (k + 1) .ftransfers) (ms := aCons (oV 0) (aCons (oV 1) aNil)) (ρ := [some (false, A), some (false, B)]) (aCons_ok rfl (aCons_ok rfl rfl)) rfl h)]
    rfl
theorem run_moved {k : Nat} {f : Mv} (hf : f.length ≤ 1000000) : run (k + 1) .fmoved_items [.list (f.map mvD)] = .ok false (.int (mtot f)) none := by
  show endF none (D_moved_items (run k) [some (false, .list (f.map mvD)), none, none]) = _
  unfold D_moved_items
  have e : lcN [1, 2] 0 (pT 3 (pCons (pN (prV [1, 2]) 1) (pCons (pN (prV [1, 2]) 1) (pCons (pN (prV [1, 2]) 2) (pNil))))) (yesM) (rV 2) [some (false, .list (f.map mvD)), none, none] = .ok (true, .list (f.map fun m => .int m.2.2)) [some (false, .list (f.map mvD)), none, none] := by
    rw [lcN_seq rfl]
    refine lc_ok (ds := f.map mvD) (xs := f.map fun m => .int m.2.2) (ρ1 := [some (false, .list (f.map mvD)), none, none]) (ρ2 := [some (false, .list (f.map mvD)), none, none]) (it_ok (fl := false) (d := .list (f.map mvD)) rfl rfl) ?_ (by rw [List.length_map]; unfold LIM; omega)
    rw [lcL_pure (p := fun _ => true) (v := fun d => match d with | .tuple [_, _, i] => i | _ => .none)]
    · rw [List.filter_eq_self.mpr fun _ _ => rfl, List.map_map]; rfl
    · intro d hd
      obtain ⟨m, _, rfl⟩ := List.mem_map.mp hd
      exact ⟨[some (false, .list (f.map mvD)), some (false, .str m.2.1), some (false, .int m.2.2)], [some (false, .list (f.map mvD)), some (false, .str m.2.1), some (false, .int m.2.2)], false, rfl, rfl, fun _ => ⟨rfl, rfl⟩, fun q => by cases q⟩
  have e2 : (f.map fun m => (.int m.2.2 : D)) = (f.map fun m => m.2.2).map .int := by rw [List.map_map]; rfl
  rw [e2] at e
  exact fin_ok (ret_ok (opN_ok (ds := [.list ((f.map fun m => m.2.2).map .int)]) (aCons_ok (oE_ok e) rfl) rfl (sum_ints (f.map fun m => m.2.2)))) rfl
theorem aput_eq {A : AL} {n : Str} {x : Int} {g : Int → Int} (hn : (A.map (·.1)).Nodup) (h : A.lookup n = some x) : asetA A n (g x) = aput A n g := by
  unfold asetA aput
  apply List.map_congr_left
  intro p hp
  by_cases e : p.1 = n
  · rw [if_pos e, if_pos e]
    have := look_mem hn hp
    rw [e, h] at this
    cases this
    rfl
  · rw [if_neg e, if_neg e]
theorem look_of_mem {A : AL} {n : Str} (h : n ∈ A.map (·.1)) : ∃ x, A.lookup n = some x := by
  induction A with
  | nil => cases h
  | cons p r ih =>
    obtain ⟨o, x⟩ := p
    rw [List.lookup_cons]
    by_cases e : n = o
    · subst e; rw [beq_self_eq_true]; exact ⟨x, rfl⟩
    · rw [beq_false_of_ne e]
      rw [List.map_cons, List.mem_cons] at h
      exact ih (h.resolve_left e)
theorem run_after {k : Nat} {A : AL} {f : Mv} (hn : (A.map (·.1)).Nodup) (hl : A.length ≤ 1000) (h1 : ∀ m ∈ f, m.1 ∈ A.map (·.1)) (h2 : ∀ m ∈ f, m.2.1 ∈ A.map (·.1)) :
    run (k + 1) .fafter_transfers [encA A, .list (f.map mvD)] = .ok true (encA (appM A f)) none := by
  show endF none (D_after_transfers (run k) [some (false, encA A), some (false, .list (f.map mvD)), none, none, none, none]) = _
  refine fin_post ?_
  unfold D_after_transfers
  refine go_nxt (asg_ok (opN_ok (aCons_ok rfl rfl) rfl (dict_enc A)) rfl) ?_
  refine go_seq ?_
  rw [forN_seq (fl := false) (ds := f.map mvD) rfl]
  refine go_for (it_ok rfl rfl) ?_
  refine go_loop (P := fun rem ρ => ∃ (B : AL) (f' : Mv) (c3 c4 c5 : Ce), rem = f'.map mvD ∧ ρ = [some (false, encA A), some (false, .list (f.map mvD)), some (true, encA B), c3, c4, c5] ∧ B.map (·.1) = A.map (·.1) ∧ appM B f' = appM A f ∧ (∀ m ∈ f', m ∈ f)) ?_ ?_ ⟨A, f, none, none, none, rfl, rfl, rfl, rfl, fun _ h => h⟩
  · rintro ρ ⟨B, f', c3, c4, c5, e1, rfl, e2, e3, e4⟩
    cases f' with
    | cons _ _ => cases e1
    | nil =>
      refine go_end rfl ?_
      show FRes.ok true (encA B) none = _
      have e3 : B = appM A f := e3
      rw [e3]
  · rintro d ds ρ ⟨B, f', c3, c4, c5, e1, rfl, e2, e3, e4⟩
    cases f' with
    | nil => cases e1
    | cons m r =>
      obtain ⟨s, g, i⟩ := m
      cases e1
      have hB : (B.map (·.1)).Nodup := by rw [e2]; exact hn
      have lB : B.length = A.length := by have := congrArg List.length e2; simpa using this
      obtain ⟨x, hx⟩ := look_of_mem (A := B) (n := s) (by rw [e2]; exact h1 _ (e4 _ List.mem_cons_self))
      have hB' : ((aput B s fun z => z - i).map (·.1)).Nodup := by rw [aput_keys]; exact hB
      obtain ⟨y, hy⟩ := look_of_mem (A := aput B s fun z => z - i) (n := g) (by rw [aput_keys, e2]; exact h2 _ (e4 _ List.mem_cons_self))
      refine ⟨[some (false, encA A), some (false, .list (f.map mvD)), some (true, encA B), some (false, .str s), some (false, .str g), some (false, .int i)], rfl, ?_⟩
      refine go_nxt (augS_ok rfl rfl rfl rfl (idx_enc hx) rfl rfl rfl (z := .int (x - i)) rfl ((set_old (by rw [e2]; exact h1 _ (e4 _ List.mem_cons_self)) (by rw [lB]; unfold LIM; omega)).trans (by rw [aput_eq (g := fun z => z - i) hB hx]))) ?_
      refine go_end (augS_ok rfl rfl rfl rfl (idx_enc hy) rfl rfl rfl (z := .int (y + i)) rfl ((set_old (by rw [aput_keys, e2]; exact h2 _ (e4 _ List.mem_cons_self)) (by unfold aput; rw [List.length_map, lB]; unfold LIM; omega)).trans (by rw [aput_eq (g := fun z => z + i) hB' hy]))) ?_
      exact ⟨aput (aput B s fun z => z - i) g fun z => z + i, r, _, _, _, rfl, rfl, by rw [aput_keys, aput_keys]; exact e2, e3, fun m hm => e4 m (List.mem_cons_of_mem _ hm)⟩
end PKL
set_option maxHeartbeats 4000000
namespace PKL
open PySem PySem.Spec PyProof.Rows L2 PK K46
def IsSt (d : D) : Prop := ∃ ns pos cell left big, 0 ≤ pos ∧ d = stD ns pos cell left big
theorem run_draw {k : Nat} {d : D} {limit : Int} (h : IsSt d) (hl : 0 < limit) (hm : limit < 1073741824) : ∃ i d', 0 ≤ i ∧ i < limit ∧ IsSt d' ∧ run (k + 1) .f_law_draw [d, .int limit] = .ok false (.int i) (some d') := by
  obtain ⟨ns, pos, cell, left, big, hp, rfl⟩ := h
  obtain ⟨i, p', c', l', b', h1, h2, h3, h4⟩ := draw_ok (ns := ns) (cell := cell) (left := left) (big := big) hp hl hm
  exact ⟨i, _, h1, h2, ⟨ns, p', c', l', b', h3, rfl⟩, h4⟩
theorem run_state {k : Nat} {ns : List Int} : run (k + 1) .f_law_state [scrD ns] = .ok true (stD ns 0 0 0 false) none := by
  show endF none (D__law_state (run k) [some (false, scrD ns)]) = _
  unfold D__law_state
  exact fin_ok (r := .ok (.ret true (stD ns 0 0 0 false)) [some (false, scrD ns)]) rfl rfl
def nameL : List Str := ["sa", "sb", "sc", "sd", "se", "sf", "sg"]
theorem sort_nameL : SortN nameL := by
  unfold SortN nameL
  decide +kernel
theorem nodup_nameL : nameL.Nodup := by decide +kernel
/-- the names drawn -/
theorem names_ok {ρ0 : En} {n : Nat} (hn : n < 8) (h0 : ∀ d : D, wipeE (ρ0.set 13 (some (false, d))) [13] = ρ0) (hg : ∀ d : D, (ρ0.set 13 (some (false, d))).getD 13 none = some (false, d)) :
    lcL [13] (pN (prV [13]) 13) yesM (op2 (oE (cst (.str "s"))) (oE (op2 (oE (cst (.str "abcdefg"))) (oV 13) idxG)) addG) (rngL 0 1 n) ρ0 = .ok (strL (nameL.take n)) ρ0 := by
  rw [lcL_pure (p := fun _ => true) (v := fun d => match d with | .int j => .str (nameL.getD j.toNat "") | _ => .none)]
  · rw [List.filter_eq_self.mpr fun _ _ => rfl]
    congr 1
    match n, hn with
    | 0, _ => rfl
    | 1, _ => rfl
    | 2, _ => rfl
    | 3, _ => rfl
    | 4, _ => rfl
    | 5, _ => rfl
    | 6, _ => rfl
    | 7, _ => rfl
  · intro d hd
    unfold rngL at hd
    obtain ⟨j, hj, rfl⟩ := List.mem_map.mp hd
    rw [List.mem_range] at hj
    have hj : j < 7 := by omega
    rw [show (0 : Int) + (j : Nat) * 1 = (j : Int) by omega]
    refine ⟨ρ0.set 13 (some (false, .int j)), ρ0.set 13 (some (false, .int j)), false, rfl, rfl, fun _ => ⟨?_, h0 _⟩, fun q => by cases q⟩
    have e13 : oV 13 (ρ0.set 13 (some (false, .int (j : Int)))) = .ok (.slot 13) (ρ0.set 13 (some (false, .int (j : Int)))) := by
      unfold oV; rw [hg]
    have r13 : rsv (ρ0.set 13 (some (false, .int (j : Int)))) (.slot 13) = some (.int (j : Int)) := by
      show ((ρ0.set 13 (some (false, .int (j : Int)))).getD 13 none).map (·.2) = _
      rw [hg]; rfl
    have step : ∀ (c s : Str), idxG (.str "abcdefg") (.int (j : Int)) = some (false, .str c) → addG (.str "s") (.str c) = some (false, .str s) → op2 (oE (cst (.str "s"))) (oE (op2 (oE (cst (.str "abcdefg"))) (oV 13) idxG)) addG (ρ0.set 13 (some (false, .int (j : Int)))) = .ok (false, .str s) (ρ0.set 13 (some (false, .int (j : Int)))) := fun c s h1 h2 =>
      op2_ok rfl (oE_ok (op2_ok rfl e13 rfl r13 h1)) rfl rfl h2
    match j, hj with
    | 0, _ => exact step ⟨#[97]⟩ "sa" rfl rfl
    | 1, _ => exact step ⟨#[98]⟩ "sb" rfl rfl
    | 2, _ => exact step ⟨#[99]⟩ "sc" rfl rfl
    | 3, _ => exact step ⟨#[100]⟩ "sd" rfl rfl
    | 4, _ => exact step ⟨#[101]⟩ "se" rfl rfl
    | 5, _ => exact step ⟨#[102]⟩ "sf" rfl rfl
    | 6, _ => exact step ⟨#[103]⟩ "sg" rfl rfl
theorem mk_val {A : AL} (hn : (A.map (·.1)).Nodup) : A = mkA (A.map (·.1)) (val A) := by
  unfold mkA
  rw [List.map_map]
  conv => lhs; rw [← List.map_id A]
  apply List.map_congr_left
  intro p hp
  have := look_mem hn hp
  show p = (p.1, val A p.1)
  unfold val
  rw [this]
  rfl
/-! ### the stocks drawn -/
def body5 (C : Fn → List D → FRes) : M Out := seqM (setM 3 (oV 5) (callM (C .f_law_draw) (some 0) (aCons (oV 1) (aCons (oE (cst (.int 61))) (aNil))))) <|
    setM 4 (oV 5) (callM (C .f_law_draw) (some 0) (aCons (oV 1) (aCons (oE (cst (.int 46))) (aNil))))
abbrev env (c0 c1 c2 c3 c4 c5 c6 c7 c8 c9 c10 c11 c12 c13 c14 c15 c16 : Ce) : En := [c0, c1, c2, c3, c4, c5, c6, c7, c8, c9, c10, c11, c12, c13, c14, c15, c16]
theorem stocks_ok {k : Nat} {c0 c2 : Ce} {st : D} {ns : List Str} (hs : IsSt st) (hn : ns.Nodup) (hl : ns.length ≤ 1000) :
    Post (loopL (pN (prF none) 5) (body5 (run (k + 1))) (strL ns) (env c0 (some (true, st)) c2 (some (true, encA [])) (some (true, encA [])) none none none none none none none none none none none none))
      fun r => ∃ st' c5 a b, IsSt st' ∧ r = .ok .nxt (env c0 (some (true, st')) c2 (some (true, encA (mkA ns a))) (some (true, encA (mkA ns b))) c5 none none none none none none none none none none none) := by
  refine go_loop (P := fun rem ρ => ∃ (dn r : List Str) (Ha Na : AL) (st' : D) (c5 : Ce), rem = strL r ∧ dn ++ r = ns ∧ IsSt st' ∧ Ha.map (·.1) = dn ∧ Na.map (·.1) = dn ∧ ρ = env c0 (some (true, st')) c2 (some (true, encA Ha)) (some (true, encA Na)) c5 none none none none none none none none none none none) ?_ ?_ ⟨[], ns, [], [], st, none, rfl, rfl, hs, rfl, rfl, rfl⟩
  · rintro ρ ⟨dn, r, Ha, Na, st', c5, h1, h2, h3, h4, h5, rfl⟩
    cases r with
    | cons _ _ => cases h1
    | nil =>
      rw [List.append_nil] at h2
      subst h2
      have eH := mk_val (A := Ha) (by rw [h4]; exact hn)
      have eN := mk_val (A := Na) (by rw [h5]; exact hn)
      rw [h4] at eH
      rw [h5] at eN
      exact ⟨st', c5, val Ha, val Na, h3, by rw [← eH, ← eN]⟩
  · rintro d ds ρ ⟨dn, r, Ha, Na, st', c5, h1, h2, h3, h4, h5, rfl⟩
    cases r with
    | nil => cases h1
    | cons n r =>
      cases h1
      have hnn : n ∉ dn := by
        rw [← h2] at hn
        exact fun m => (List.nodup_append.mp hn).2.2 n m n List.mem_cons_self rfl
      have hll : dn.length < LIM := by
        rw [← h2, List.length_append, List.length_cons] at hl
        unfold LIM; omega
      obtain ⟨i, st1, _, _, s1, e1⟩ := run_draw (k := k) (limit := 61) h3 (by decide) (by decide)
      obtain ⟨j, st2, _, _, s2, e2⟩ := run_draw (k := k) (limit := 46) s1 (by decide) (by decide)
      have lH : Ha.length = dn.length := by rw [← h4, List.length_map]
      have lN : Na.length = dn.length := by rw [← h5, List.length_map]
      refine ⟨env c0 (some (true, st')) c2 (some (true, encA Ha)) (some (true, encA Na)) (some (false, .str n)) none none none none none none none none none none none, rfl, ?_⟩
      refine go_nxt (set_ok (callM_ok (aCons_ok rfl (aCons_ok rfl rfl)) rfl rfl rfl e1) rfl rfl rfl rfl (set_new (by rw [h4]; exact hnn) (by rw [lH]; exact hll))) ?_
      refine go_end (set_ok (callM_ok (ρ1 := env c0 (some (true, st1)) c2 (some (true, encA (Ha ++ [(n, i)]))) (some (true, encA Na)) (some (false, .str n)) none none none none none none none none none none none) (aCons_ok rfl (aCons_ok rfl rfl)) rfl rfl rfl e2) rfl rfl rfl rfl (set_new (by rw [h5]; exact hnn) (by rw [lN]; exact hll))) ?_
      exact ⟨dn ++ [n], r, Ha ++ [(n, i)], Na ++ [(n, j)], st2, some (false, .str n), rfl, by rw [List.append_assoc]; exact h2, s2, by rw [List.map_append, h4]; rfl, by rw [List.map_append, h5]; rfl, rfl⟩
end PKL
set_option maxHeartbeats 4000000
namespace PKL
open PySem PySem.Spec PyProof.Rows L2 PK K46
/-- short and spare, as the law reckons them -/
def body7 : M Out := (seqM (ifM (tstB (op2 (oE (op2 (oV 4) (oV 5) idxG)) (oE (op2 (oV 3) (oV 5) idxG)) gtG)) (setM 6 (oV 5) (op2 (oE (op2 (oV 4) (oV 5) idxG)) (oE (op2 (oV 3) (oV 5) idxG)) subG)) nilM) <|
    ifM (tstB (op2 (oE (op2 (oV 3) (oV 5) idxG)) (oE (op2 (oV 4) (oV 5) idxG)) gtG)) (setM 7 (oV 5) (op2 (oE (op2 (oV 3) (oV 5) idxG)) (oE (op2 (oV 4) (oV 5) idxG)) subG)) nilM)
def shM (ns : List Str) (a b : Str → Int) : AL := mkA (ns.filter fun n => decide (a n < b n)) fun n => b n - a n
theorem shM_snoc (dn : List Str) (n : Str) (a b : Str → Int) : shM (dn ++ [n]) a b = if a n < b n then shM dn a b ++ [(n, b n - a n)] else shM dn a b := by
  unfold shM
  rw [List.filter_append]
  by_cases h : a n < b n
  · rw [if_pos h, List.filter_cons, if_pos (decide_eq_true h)]
    unfold mkA
    rw [List.map_append]; rfl
  · rw [if_neg h, List.filter_cons, if_neg (by simpa using h)]
    simp
theorem shM_keys (ns : List Str) (a b : Str → Int) : (shM ns a b).map (·.1) = ns.filter fun n => decide (a n < b n) := mk_keys _ _
theorem shM_len (ns : List Str) (a b : Str → Int) : (shM ns a b).length ≤ ns.length := by
  unfold shM mkA
  rw [List.length_map]
  exact List.length_filter_le _ _
theorem gaps_ok {c0 c1 c2 c5 : Ce} {fa fb : Bool} {ns : List Str} {a b : Str → Int} (hn : ns.Nodup) (hl : ns.length ≤ 1000) :
    Post (loopL (pN (prF none) 5) body7 (strL ns) (env c0 c1 c2 (some (fa, encA (mkA ns a))) (some (fb, encA (mkA ns b))) c5 (some (true, encA [])) (some (true, encA [])) none none none none none none none none none))
      fun r => ∃ c5, r = .ok .nxt (env c0 c1 c2 (some (fa, encA (mkA ns a))) (some (fb, encA (mkA ns b))) c5 (some (true, encA (shM ns a b))) (some (true, encA (shM ns b a))) none none none none none none none none none) := by
  refine go_loop (P := fun rem ρ => ∃ (dn r : List Str) (c5 : Ce), rem = strL r ∧ dn ++ r = ns ∧ ρ = env c0 c1 c2 (some (fa, encA (mkA ns a))) (some (fb, encA (mkA ns b))) c5 (some (true, encA (shM dn a b))) (some (true, encA (shM dn b a))) none none none none none none none none none) ?_ ?_ ⟨[], ns, c5, rfl, rfl, rfl⟩
  · rintro ρ ⟨dn, r, c5, h1, h2, rfl⟩
    cases r with
    | cons _ _ => cases h1
    | nil =>
      rw [List.append_nil] at h2
      subst h2
      exact ⟨c5, rfl⟩
  · rintro d ds ρ ⟨dn, r, c5, h1, h2, rfl⟩
    cases r with
    | nil => cases h1
    | cons n r =>
      cases h1
      have hm : n ∈ ns := by rw [← h2]; exact List.mem_append_right _ List.mem_cons_self
      have hnn : n ∉ dn := by
        rw [← h2] at hn
        exact fun m => (List.nodup_append.mp hn).2.2 n m n List.mem_cons_self rfl
      have ea := idx_mk (f := a) hm
      have eb := idx_mk (f := b) hm
      have hll : dn.length < LIM := by
        rw [← h2, List.length_append, List.length_cons] at hl
        unfold LIM; omega
      have k1 : n ∉ (shM dn a b).map (·.1) := fun m => hnn (List.filter_sublist.subset (by rw [shM_keys] at m; exact m))
      have k2 : n ∉ (shM dn b a).map (·.1) := fun m => hnn (List.filter_sublist.subset (by rw [shM_keys] at m; exact m))
      have l1 := Nat.lt_of_le_of_lt (shM_len dn a b) hll
      have l2 := Nat.lt_of_le_of_lt (shM_len dn b a) hll
      refine ⟨env c0 c1 c2 (some (fa, encA (mkA ns a))) (some (fb, encA (mkA ns b))) (some (false, .str n)) (some (true, encA (shM dn a b))) (some (true, encA (shM dn b a))) none none none none none none none none none, rfl, ?_⟩
      have second : Post (ifM (tstB (op2 (oE (op2 (oV 3) (oV 5) idxG)) (oE (op2 (oV 4) (oV 5) idxG)) gtG)) (setM 7 (oV 5) (op2 (oE (op2 (oV 3) (oV 5) idxG)) (oE (op2 (oV 4) (oV 5) idxG)) subG)) nilM (env c0 c1 c2 (some (fa, encA (mkA ns a))) (some (fb, encA (mkA ns b))) (some (false, .str n)) (some (true, encA (shM (dn ++ [n]) a b))) (some (true, encA (shM dn b a))) none none none none none none none none none))
          (LoopQ (fun rem ρ => ∃ (dn r : List Str) (c5 : Ce), rem = strL r ∧ dn ++ r = ns ∧ ρ = env c0 c1 c2 (some (fa, encA (mkA ns a))) (some (fb, encA (mkA ns b))) c5 (some (true, encA (shM dn a b))) (some (true, encA (shM dn b a))) none none none none none none none none none) (fun r => ∃ c5, r = .ok .nxt (env c0 c1 c2 (some (fa, encA (mkA ns a))) (some (fb, encA (mkA ns b))) c5 (some (true, encA (shM ns a b))) (some (true, encA (shM ns b a))) none none none none none none none none none)) (strL r)) := by
        refine go_if (t := decide (b n < a n)) (tst_ok (op2_ok (oE_ok (op2_ok rfl rfl rfl rfl ea)) (oE_ok (op2_ok rfl rfl rfl rfl eb)) rfl rfl rfl)) (fun hg => ?_) fun hg => ?_
        · refine go_end (set_ok (op2_ok (oE_ok (op2_ok rfl rfl rfl rfl ea)) (oE_ok (op2_ok rfl rfl rfl rfl eb)) rfl rfl (r := (false, .int (a n - b n))) rfl) rfl rfl rfl rfl (set_new k2 l2)) ?_
          refine ⟨dn ++ [n], r, some (false, .str n), rfl, by rw [List.append_assoc]; exact h2, ?_⟩
          rw [shM_snoc dn n b a, if_pos (of_decide_eq_true hg)]
          rfl
        · refine go_end rfl ?_
          refine ⟨dn ++ [n], r, some (false, .str n), rfl, by rw [List.append_assoc]; exact h2, ?_⟩
          rw [shM_snoc dn n b a, if_neg (of_decide_eq_false hg)]
      refine go_seq (go_if (t := decide (a n < b n)) (tst_ok (op2_ok (oE_ok (op2_ok rfl rfl rfl rfl eb)) (oE_ok (op2_ok rfl rfl rfl rfl ea)) rfl rfl rfl)) (fun hg => ?_) fun hg => ?_)
      · refine go_end (set_ok (op2_ok (oE_ok (op2_ok rfl rfl rfl rfl eb)) (oE_ok (op2_ok rfl rfl rfl rfl ea)) rfl rfl (r := (false, .int (b n - a n))) rfl) rfl rfl rfl rfl (set_new k1 l1)) ?_
        rw [shM_snoc dn n a b, if_pos (of_decide_eq_true hg)] at second
        exact second
      · refine go_end rfl ?_
        rw [shM_snoc dn n a b, if_neg (of_decide_eq_false hg)] at second
        exact second
/-- sum([d[name] for name in d]) of the dict in slot i: the comprehension -/
theorem vals_ok {i : Nat} {ρ : En} {fl : Bool} {A : AL} (hn : (A.map (·.1)).Nodup) (hl : A.length ≤ 1000) (h : ρ.getD i none = some (fl, encA A)) (hi : i ≠ 5) (h5 : 5 < ρ.length) :
    lcN [5] i (pN (prV [5]) 5) yesM (op2 (oV i) (oV 5) idxG) ρ = .ok (true, .list ((A.map (·.2)).map .int)) (backE (frz1 ρ i) (wipeE (frz1 ρ i) [5]) [5]) := by
  have e1 : (A.map fun p => ((.str p.1 : D), (.int p.2 : D))).map (·.1) = strL (A.map (·.1)) := by unfold strL; rw [List.map_map, List.map_map]; rfl
  refine lcN_ok h (isDic_enc A) (ρ2 := wipeE (frz1 ρ i) [5]) ?_ (by rw [List.length_map, List.length_map]; unfold LIM; omega)
  rw [e1, lcL_pure (p := fun _ => true) (v := onS fun n => .int (val A n))]
  · rw [List.filter_eq_self.mpr fun _ _ => rfl]
    unfold strL
    rw [List.map_map, List.map_map, List.map_map]
    congr 1
    apply List.map_congr_left
    intro p hp
    have := look_mem hn hp
    show PyData.int (val A p.1) = .int p.2
    unfold val; rw [this]; rfl
  · intro d hd
    obtain ⟨n, hm, rfl⟩ := List.mem_map.mp hd
    obtain ⟨x, hx⟩ := look_of_mem hm
    have ev : val A n = x := by unfold val; rw [hx]; rfl
    let ρ1 := (wipeE (frz1 ρ i) [5]).set 5 (some (false, .str n))
    have g5 : ρ1.getD 5 none = some (false, .str n) := by
      show ((wipeE (frz1 ρ i) [5]).set 5 (some (false, .str n))).getD 5 none = _
      rw [List.getD_eq_getElem?_getD, List.getElem?_set_self (by rw [wipeE_len, frz1_len]; exact h5)]; rfl
    have gi : ∃ fl', ρ1.getD i none = some (fl', encA A) := by
      have e2 : ρ1[i]? = (frz1 ρ i)[i]? := by
        show (((frz1 ρ i).set 5 none).set 5 (some (false, .str n)))[i]? = _
        rw [List.getElem?_set_ne (Ne.symm hi), List.getElem?_set_ne (Ne.symm hi)]
      rw [List.getD_eq_getElem?_getD, e2]
      unfold frz1
      rw [h]
      cases fl with
      | false =>
        simp only
        rw [← List.getD_eq_getElem?_getD, h]; exact ⟨_, rfl⟩
      | true =>
        simp only
        rw [List.getElem?_set_self ((List.getElem?_eq_some_iff.mp (getD_cell h)).1)]; exact ⟨_, rfl⟩
    obtain ⟨fl', gi⟩ := gi
    have o5 : oV 5 ρ1 = .ok (.slot 5) ρ1 := by unfold oV; rw [g5]
    have oi : oV i ρ1 = .ok (.slot i) ρ1 := by unfold oV; rw [gi]
    have r5 : rsv ρ1 (.slot 5) = some (.str n) := by show (ρ1.getD 5 none).map (·.2) = _; rw [g5]; rfl
    have ri : rsv ρ1 (.slot i) = some (encA A) := by show (ρ1.getD i none).map (·.2) = _; rw [gi]; rfl
    refine ⟨ρ1, ρ1, false, rfl, rfl, fun _ => ⟨?_, ?_⟩, fun q => by cases q⟩
    · show op2 _ _ _ _ = .ok (false, .int (val A n)) _
      rw [ev]
      exact op2_ok oi o5 ri r5 (idx_enc hx)
    · show (((frz1 ρ i).set 5 none).set 5 _).set 5 none = (frz1 ρ i).set 5 none
      rw [List.set_set, List.set_set]
/-! ### the moves due -/
def bodyI : M Out := (ifM (andT (tstB (op2 (oV 15) (oV 11) inG)) (andT (tstB (op2 (oV 14) (oE (cst (.int 0))) gtG)) (tstB (op2 (oE (op2 (oV 11) (oV 15) idxG)) (oE (cst (.int 0))) gtG)))) (seqM (asgM (prF none) 16 (opN (aCons (oV 14) (aCons (oE (op2 (oV 11) (oV 15) idxG)) (aNil))) minG)) <|
    seqM (exprM (methM 10 (lCons (tupM (lCons (rV 15) (lCons (rV 5) (lCons (rV 16) (lNil))))) (lNil)) appG)) <|
    seqM (setM 11 (oV 15) (op2 (oE (op2 (oV 11) (oV 15) idxG)) (oV 16) subG)) <|
    asgM (prF none) 14 (op2 (oV 14) (oV 16) subG)) nilM)
theorem and_no {x y : M Bool} {ρ ρ1 : En} (h : x ρ = .ok false ρ1) : andT x y ρ = .ok false ρ1 := by
  unfold andT bnd; rw [h]; rfl
theorem and_yes {x y : M Bool} {ρ ρ1 : En} {r : Res Bool} (h : x ρ = .ok true ρ1) (h2 : y ρ1 = r) : andT x y ρ = r := by
  unfold andT bnd; rw [h]; exact h2
theorem or_no {x y : M Bool} {ρ ρ1 : En} {r : Res Bool} (h : x ρ = .ok false ρ1) (h2 : y ρ1 = r) : orT x y ρ = r := by
  unfold orT bnd; rw [h]; exact h2
theorem dueI_ok {c0 c1 c2 c3 c4 c6 c7 c8 c9 c12 c13 c15 c16 : Ce} {f : Mv} {s : Str} {w : Int} {ls : AL} {ns : List Str} {p : Str → Bool} (hn : ns.Nodup) (hk : ls.map (·.1) = ns.filter p) (hy : ls.length ≤ 1000) (hf : f.length + ls.length < LIM) :
    Post (loopL (pN (prF none) 15) bodyI (strL ns) (env c0 c1 c2 c3 c4 (some (false, .str s)) c6 c7 c8 c9 (some (true, .list (f.map mvD))) (some (true, encA ls)) c12 c13 (some (false, .int w)) c15 c16))
      fun r => ∃ c15 c16, r = .ok .nxt (env c0 c1 c2 c3 c4 (some (false, .str s)) c6 c7 c8 c9 (some (true, .list ((f ++ tag s (serve w ls).1).map mvD))) (some (true, encA (serve w ls).2.1)) c12 c13 (some (false, .int (serve w ls).2.2)) c15 c16) := by
  let F := f ++ tag s (serve w ls).1
  let L := (serve w ls).2.1
  let Wn := (serve w ls).2.2
  refine go_loop (P := fun rem ρ => ∃ (f' : Mv) (w' : Int) (q : List Str) (ld lt : AL) (c15 c16 : Ce), rem = strL q ∧ q.Sublist ns ∧ lt.map (·.1) = q.filter p ∧ ρ = env c0 c1 c2 c3 c4 (some (false, .str s)) c6 c7 c8 c9 (some (true, .list (f'.map mvD))) (some (true, encA (ld ++ lt))) c12 c13 (some (false, .int w')) c15 c16 ∧ (ld ++ lt).map (·.1) = ls.map (·.1) ∧
      f' ++ tag s (serve w' lt).1 = F ∧ ld ++ (serve w' lt).2.1 = L ∧ (serve w' lt).2.2 = Wn ∧ (∀ o ∈ q, o ∉ ld.map (·.1))) ?_ ?_ ⟨f, w, ns, [], ls, c15, c16, rfl, List.Sublist.refl _, hk, rfl, rfl, rfl, rfl, rfl, fun _ _ m => by cases m⟩
  · rintro ρ ⟨f', w', q, ld, lt, c15, c16, h1, _, hq, rfl, h2, h3, h4, h5, _⟩
    cases q with
    | cons _ _ => cases h1
    | nil =>
      have hlt : lt = [] := by
        cases lt with
        | nil => rfl
        | cons _ _ => cases hq
      subst hlt
      have e3 : f' = F := (List.append_nil f').symm.trans h3
      have e4 : ld ++ [] = L := h4
      have e5 : w' = Wn := h5
      rw [e3, e4, e5]
      exact ⟨c15, c16, rfl⟩
  · rintro d ds ρ ⟨f', w', q, ld, lt, c15, c16, h1, hsub, hq, rfl, h2, h3, h4, h5, hno⟩
    cases q with
    | nil => cases h1
    | cons o q =>
      cases h1
      have hsub' : q.Sublist ns := (List.sublist_cons_self o q).trans hsub
      have hqn : (o :: q).Nodup := hn.sublist hsub
      have lenL : (ld ++ lt).length = ls.length := by have := congrArg List.length h2; simpa using this
      have hno' : ∀ o' ∈ q, o' ∉ ld.map (·.1) := fun o' m => hno o' (List.mem_cons_of_mem _ m)
      refine ⟨env c0 c1 c2 c3 c4 (some (false, .str s)) c6 c7 c8 c9 (some (true, .list (f'.map mvD))) (some (true, encA (ld ++ lt))) c12 c13 (some (false, .int w')) (some (false, .str o)) c16, rfl, ?_⟩
      have ein := in_enc (ld ++ lt) o
      by_cases hp : p o = true
      · rw [List.filter_cons, if_pos hp] at hq
        cases lt with
        | nil => cases hq
        | cons z r =>
          obtain ⟨o', l⟩ := z
          rw [List.map_cons] at hq
          obtain ⟨rfl, hq'⟩ := List.cons.inj hq
          have n1 : o' ∉ ld.map (·.1) := hno o' List.mem_cons_self
          have n2 : o' ∉ r.map (·.1) := by
            rw [hq']
            exact fun m => (List.nodup_cons.mp hqn).1 (List.filter_sublist.subset m)
          have e2 : idxG (encA (ld ++ (o', l) :: r)) (.str o') = some (false, .int l) := idx_enc (look_mid n1)
          rw [decide_eq_true (by rw [List.map_append]; exact List.mem_append_right _ List.mem_cons_self)] at ein
          have skip : ¬ mn w' l > 0 → Post (nilM (env c0 c1 c2 c3 c4 (some (false, .str s)) c6 c7 c8 c9 (some (true, .list (f'.map mvD))) (some (true, encA (ld ++ (o', l) :: r))) c12 c13 (some (false, .int w')) (some (false, .str o')) c16)) (LoopQ (fun rem ρ => ∃ (f' : Mv) (w' : Int) (q : List Str) (ld lt : AL) (c15 c16 : Ce), rem = strL q ∧ q.Sublist ns ∧ lt.map (·.1) = q.filter p ∧ ρ = env c0 c1 c2 c3 c4 (some (false, .str s)) c6 c7 c8 c9 (some (true, .list (f'.map mvD))) (some (true, encA (ld ++ lt))) c12 c13 (some (false, .int w')) c15 c16 ∧ (ld ++ lt).map (·.1) = ls.map (·.1) ∧
              f' ++ tag s (serve w' lt).1 = F ∧ ld ++ (serve w' lt).2.1 = L ∧ (serve w' lt).2.2 = Wn ∧ (∀ o ∈ q, o ∉ ld.map (·.1))) (fun r => ∃ c15 c16, r = .ok .nxt (env c0 c1 c2 c3 c4 (some (false, .str s)) c6 c7 c8 c9 (some (true, .list ((f ++ tag s (serve w ls).1).map mvD))) (some (true, encA (serve w ls).2.1)) c12 c13 (some (false, .int (serve w ls).2.2)) c15 c16)) (strL q)) := fun hg => by
            unfold serve at h3 h4 h5
            rw [if_neg hg] at h3 h4 h5
            refine ⟨f', w', q, ld ++ [(o', l)], r, some (false, .str o'), c16, rfl, hsub', hq', ?_, ?_, h3, ?_, h5, ?_⟩
            · rw [List.append_assoc]; rfl
            · rw [← h2, List.append_assoc]; rfl
            · rw [List.append_assoc]; exact h4
            · intro x hx m
              rw [List.map_append, List.mem_append] at m
              rcases m with m | m
              · exact hno' x hx m
              · rcases List.mem_cons.mp m with e | m
                · exact (List.nodup_cons.mp hqn).1 (by have e : x = o' := e; rw [← e]; exact hx)
                · cases m
          by_cases w0 : 0 < w'
          · by_cases l0 : 0 < l
            · have hg : mn w' l > 0 := by unfold mn; split <;> omega
              refine go_if (t := true) (and_yes (tst_ok (op2_ok rfl rfl rfl rfl ein)) (and_yes (tst_ok (op2_ok rfl rfl rfl rfl (r := (false, .bool true)) (show some (false, PyData.bool (decide (0 < w'))) = _ by rw [decide_eq_true w0]))) (tst_ok (op2_ok (oE_ok (op2_ok rfl rfl rfl rfl e2)) rfl rfl rfl (r := (false, .bool true)) (show some (false, PyData.bool (decide (0 < l))) = _ by rw [decide_eq_true l0]))))) (fun _ => ?_) fun q => by cases q
              unfold serve at h3 h4 h5
              rw [if_pos hg] at h3 h4 h5
              have lf : (f'.map mvD).length < LIM := by
                rw [List.length_map]
                have := congrArg List.length h3
                have l1 : F.length ≤ f.length + ls.length := by
                  show (f ++ tag s (serve w ls).1).length ≤ _
                  rw [List.length_append]
                  unfold tag
                  rw [List.length_map]
                  exact Nat.add_le_add_left (serve_len ls w) _
                rw [← this, List.length_append] at l1
                unfold LIM at *
                omega
              refine go_nxt (asg_ok (opN_ok (aCons_ok rfl (aCons_ok (oE_ok (op2_ok rfl rfl rfl rfl e2)) rfl)) rfl (r := (false, .int (mn w' l))) rfl) rfl) ?_
              refine go_nxt (expr_ok (meth_ok rfl (lCons_ok (r := (false, mvD (o', s, mn w' l))) rfl rfl) rfl (app_ok' lf))) ?_
              refine go_nxt (set_ok (op2_ok (oE_ok (op2_ok rfl rfl rfl rfl e2)) rfl rfl rfl (r := (false, .int (l - mn w' l))) rfl) rfl rfl rfl rfl ((set_old (by rw [List.map_append]; exact List.mem_append_right _ List.mem_cons_self) (by rw [lenL]; unfold LIM; omega)).trans (by rw [aset_mid n1 n2]))) ?_
              refine go_end rfl ?_
              refine ⟨f' ++ [(o', s, mn w' l)], w' - mn w' l, q, ld ++ [(o', l - mn w' l)], r, some (false, .str o'), some (false, .int (mn w' l)), rfl, hsub', hq', ?_, ?_, ?_, ?_, h5, ?_⟩
              · rw [List.map_append, List.append_assoc]; rfl
              · rw [← h2]; simp
              · rw [List.append_assoc]; exact h3
              · rw [List.append_assoc]; exact h4
              · intro x hx m
                rw [List.map_append, List.mem_append] at m
                rcases m with m | m
                · exact hno' x hx m
                · rcases List.mem_cons.mp m with e | m
                  · exact (List.nodup_cons.mp hqn).1 (by have e : x = o' := e; rw [← e]; exact hx)
                  · cases m
            · refine go_if (t := false) (and_yes (tst_ok (op2_ok rfl rfl rfl rfl ein)) (and_yes (tst_ok (op2_ok rfl rfl rfl rfl (r := (false, .bool true)) (show some (false, PyData.bool (decide (0 < w'))) = _ by rw [decide_eq_true w0]))) (tst_ok (op2_ok (oE_ok (op2_ok rfl rfl rfl rfl e2)) rfl rfl rfl (r := (false, .bool false)) (show some (false, PyData.bool (decide (0 < l))) = _ by rw [decide_eq_false l0]))))) (fun q => by cases q) fun _ => ?_
              exact skip (by unfold mn; split <;> omega)
          · refine go_if (t := false) (and_yes (tst_ok (op2_ok rfl rfl rfl rfl ein)) (and_no (tst_ok (op2_ok rfl rfl rfl rfl (r := (false, .bool false)) (show some (false, PyData.bool (decide (0 < w'))) = _ by rw [decide_eq_false w0]))))) (fun q => by cases q) fun _ => ?_
            exact skip (by unfold mn; split <;> omega)
      · rw [List.filter_cons, if_neg hp] at hq
        have hni : o ∉ (ld ++ lt).map (·.1) := by
          rw [h2, hk]
          exact fun m => hp (List.mem_filter.mp m).2
        rw [decide_eq_false hni] at ein
        refine go_if (t := false) (and_no (tst_ok (op2_ok rfl rfl rfl rfl ein))) (fun q => by cases q) fun _ => ?_
        exact go_end rfl ⟨f', w', q, ld, lt, some (false, .str o), c16, rfl, hsub', hq, rfl, h2, h3, h4, h5, hno'⟩
def bodyO : M Out := (ifM (tstB (op2 (oV 5) (oV 6) inG)) (seqM (asgM (prF none) 14 (op2 (oV 6) (oV 5) idxG)) <|
    forN 2 (pN (prF none) 15) bodyI) nilM)
theorem dueO_ok {c0 c1 c3 c4 c5 c7 c8 c9 c12 c13 c14 c15 c16 : Ce} {f2 f6 : Bool} {ns : List Str} {a b : Str → Int} (hn : ns.Nodup) (hl : ns.length ≤ 1000) :
    Post (loopL (pN (prF none) 5) bodyO (strL ns) (env c0 c1 (some (f2, .list (strL ns))) c3 c4 c5 (some (f6, encA (shM ns a b))) c7 c8 c9 (some (true, .list [])) (some (true, encA (shM ns b a))) c12 c13 c14 c15 c16))
      fun r => ∃ g2 c5 c14 c15 c16, r = .ok .nxt (env c0 c1 (some (g2, .list (strL ns))) c3 c4 c5 (some (f6, encA (shM ns a b))) c7 c8 c9 (some (true, .list ((due (shM ns a b) (shM ns b a)).1.map mvD))) (some (true, encA (due (shM ns a b) (shM ns b a)).2)) c12 c13 c14 c15 c16) := by
  let S := shM ns a b
  let P := shM ns b a
  have lD : (due S P).1.length + 1000 < LIM := by
    have h1 := due_len S P
    have h2 : S.length * P.length ≤ 1000 * 1000 := Nat.mul_le_mul (Nat.le_trans (shM_len _ _ _) hl) (Nat.le_trans (shM_len _ _ _) hl)
    unfold LIM; omega
  refine go_loop (P := fun rem ρ => ∃ (f : Mv) (q : List Str) (ls : AL) (g2 : Bool) (c5 c14 c15 c16 : Ce), rem = strL q ∧ q.Sublist ns ∧ ρ = env c0 c1 (some (g2, .list (strL ns))) c3 c4 c5 (some (f6, encA (shM ns a b))) c7 c8 c9 (some (true, .list (f.map mvD))) (some (true, encA ls)) c12 c13 c14 c15 c16 ∧ ls.map (·.1) = P.map (·.1) ∧
      f ++ (due (shM q a b) ls).1 = (due S P).1 ∧ (due (shM q a b) ls).2 = (due S P).2) ?_ ?_ ⟨[], ns, P, f2, c5, c14, c15, c16, rfl, List.Sublist.refl _, rfl, rfl, rfl, rfl⟩
  · rintro ρ ⟨f, q, ls, g2, c5, c14, c15, c16, h1, _, rfl, h2, h3, h4⟩
    cases q with
    | cons _ _ => cases h1
    | nil =>
      have e3 : f = (due S P).1 := (List.append_nil f).symm.trans h3
      have e4 : ls = (due S P).2 := h4
      rw [e3, e4]
      exact ⟨g2, c5, c14, c15, c16, rfl⟩
  · rintro d ds ρ ⟨f, q, ls, g2, c5, c14, c15, c16, h1, hsub, rfl, h2, h3, h4⟩
    cases q with
    | nil => cases h1
    | cons s q =>
      cases h1
      have hm : s ∈ ns := hsub.subset List.mem_cons_self
      have hsub' : q.Sublist ns := (List.sublist_cons_self s q).trans hsub
      refine ⟨env c0 c1 (some (g2, .list (strL ns))) c3 c4 (some (false, .str s)) (some (f6, encA (shM ns a b))) c7 c8 c9 (some (true, .list (f.map mvD))) (some (true, encA ls)) c12 c13 c14 c15 c16, rfl, ?_⟩
      have ein := in_enc (shM ns a b) s
      by_cases hp : a s < b s
      · have hk : s ∈ (shM ns a b).map (·.1) := by rw [shM_keys]; exact List.mem_filter.mpr ⟨hm, decide_eq_true hp⟩
        have hk' : s ∈ ns.filter fun n => decide (a n < b n) := List.mem_filter.mpr ⟨hm, decide_eq_true hp⟩
        rw [decide_eq_true hk] at ein
        have eS : shM (s :: q) a b = (s, b s - a s) :: shM q a b := by
          unfold shM
          rw [List.filter_cons, if_pos (decide_eq_true hp)]; rfl
        rw [eS] at h3 h4
        have e6 : idxG (encA (shM ns a b)) (.str s) = some (false, .int (b s - a s)) := idx_mk hk'
        refine go_if (t := true) (tst_ok (op2_ok rfl rfl rfl rfl ein)) (fun _ => ?_) fun q => by cases q
        refine go_nxt (asg_ok (op2_ok rfl rfl rfl rfl e6) rfl) ?_
        rw [forN_seq (fl := g2) (ds := strL ns) rfl]
        have ef : itM (rV 2) (env c0 c1 (some (g2, .list (strL ns))) c3 c4 (some (false, .str s)) (some (f6, encA (shM ns a b))) c7 c8 c9 (some (true, .list (f.map mvD))) (some (true, encA ls)) c12 c13 (some (false, .int (b s - a s))) c15 c16) = .ok (strL ns) (env c0 c1 (some (false, .list (strL ns))) c3 c4 (some (false, .str s)) (some (f6, encA (shM ns a b))) c7 c8 c9 (some (true, .list (f.map mvD))) (some (true, encA ls)) c12 c13 (some (false, .int (b s - a s))) c15 c16) := by
          cases g2 <;> exact it_ok (fl := false) (d := .list (strL ns)) rfl rfl
        refine go_for ef ?_
        have lenP : ls.length = P.length := by have := congrArg List.length h2; simpa using this
        have lP : P.length ≤ 1000 := Nat.le_trans (shM_len _ _ _) hl
        have lenF : f.length ≤ (due S P).1.length := by rw [← h3, List.length_append]; exact Nat.le_add_right _ _
        refine go_mono (dueI_ok (p := fun n => decide (b n < a n)) hn (by rw [h2]; exact shM_keys _ _ _) (by omega) (by omega)) ?_
        rintro _ ⟨d15, d16, rfl⟩
        refine ⟨f ++ tag s (serve (b s - a s) ls).1, q, (serve (b s - a s) ls).2.1, false, some (false, .str s), some (false, .int (serve (b s - a s) ls).2.2), d15, d16, rfl, hsub', rfl, by rw [serve_keys]; exact h2, ?_, h4⟩
        rw [← h3, List.append_assoc]; rfl
      · have hk : s ∉ (shM ns a b).map (·.1) := by
          rw [shM_keys]
          exact fun m => hp (of_decide_eq_true (List.mem_filter.mp m).2)
        rw [decide_eq_false hk] at ein
        have eS : shM (s :: q) a b = shM q a b := by
          unfold shM
          rw [List.filter_cons, if_neg (by simpa using hp)]
        rw [eS] at h3 h4
        refine go_if (t := false) (tst_ok (op2_ok rfl rfl rfl rfl ein)) (fun q => by cases q) fun _ => ?_
        exact go_end rfl ⟨f, q, ls, g2, some (false, .str s), c14, c15, c16, rfl, hsub', rfl, h2, h3, h4⟩
/-! ### the last looks -/
def bodyC : M Out := (ifM (orT (tstB (op2 (oE (op2 (oV 12) (oV 5) idxG)) (oE (opN (aCons (oE (op2 (oV 4) (oV 5) idxG)) (aCons (oE (op2 (oV 3) (oV 5) idxG)) (aNil))) minG)) ltG)) (orT (andT (tstB (op2 (oV 5) (oV 6) inG)) (tstB (op2 (oE (op2 (oV 12) (oV 5) idxG)) (oE (op2 (oV 4) (oV 5) idxG)) neG))) (andT (tstB (op2 (oV 5) (oV 7) inG)) (tstB (op2 (oE (op2 (oV 12) (oV 5) idxG)) (oE (op2 (oV 4) (oV 5) idxG)) ltG))))) (retM (cst (.bool false))) nilM)
theorem check_ok {c0 c1 c2 c5 c8 c9 c10 c11 c13 c14 c15 c16 : Ce} {f3 f4 f6 f7 f12 : Bool} {ns : List Str} {a b e : Str → Int} (h1 : ∀ n ∈ ns, b n ≤ e n) (h2 : ∀ n ∈ ns, a n < b n → e n = b n) :
    Post (loopL (pN (prF none) 5) bodyC (strL ns) (env c0 c1 c2 (some (f3, encA (mkA ns a))) (some (f4, encA (mkA ns b))) c5 (some (f6, encA (shM ns a b))) (some (f7, encA (shM ns b a))) c8 c9 c10 c11 (some (f12, encA (mkA ns e))) c13 c14 c15 c16))
      fun r => ∃ c5, r = .ok .nxt (env c0 c1 c2 (some (f3, encA (mkA ns a))) (some (f4, encA (mkA ns b))) c5 (some (f6, encA (shM ns a b))) (some (f7, encA (shM ns b a))) c8 c9 c10 c11 (some (f12, encA (mkA ns e))) c13 c14 c15 c16) := by
  refine go_loop (P := fun rem ρ => ∃ (q : List Str) (c5 : Ce), rem = strL q ∧ q.Sublist ns ∧ ρ = env c0 c1 c2 (some (f3, encA (mkA ns a))) (some (f4, encA (mkA ns b))) c5 (some (f6, encA (shM ns a b))) (some (f7, encA (shM ns b a))) c8 c9 c10 c11 (some (f12, encA (mkA ns e))) c13 c14 c15 c16) ?_ ?_ ⟨ns, c5, rfl, List.Sublist.refl _, rfl⟩
  · rintro ρ ⟨q, c5, _, _, rfl⟩
    exact ⟨c5, rfl⟩
  · rintro d ds ρ ⟨q, c5, hq, hsub, rfl⟩
    cases q with
    | nil => cases hq
    | cons n q =>
      cases hq
      have hm : n ∈ ns := hsub.subset List.mem_cons_self
      have ea := idx_mk (f := a) hm
      have eb := idx_mk (f := b) hm
      have ee := idx_mk (f := e) hm
      have i6 := in_enc (shM ns a b) n
      have i7 := in_enc (shM ns b a) n
      have k1 := h1 n hm
      have lt1 : ltG (.int (e n)) (.int (mn (b n) (a n))) = some (false, .bool false) := by
        show some (false, PyData.bool (decide (e n < mn (b n) (a n)))) = _
        rw [decide_eq_false (by unfold mn; split <;> omega)]
      have lt2 : ltG (.int (e n)) (.int (b n)) = some (false, .bool false) := by
        show some (false, PyData.bool (decide (e n < b n))) = _
        rw [decide_eq_false (by omega)]
      refine ⟨env c0 c1 c2 (some (f3, encA (mkA ns a))) (some (f4, encA (mkA ns b))) (some (false, .str n)) (some (f6, encA (shM ns a b))) (some (f7, encA (shM ns b a))) c8 c9 c10 c11 (some (f12, encA (mkA ns e))) c13 c14 c15 c16, rfl, ?_⟩
      have t3 : andT (tstB (op2 (oV 5) (oV 7) inG)) (tstB (op2 (oE (op2 (oV 12) (oV 5) idxG)) (oE (op2 (oV 4) (oV 5) idxG)) ltG)) (env c0 c1 c2 (some (f3, encA (mkA ns a))) (some (f4, encA (mkA ns b))) (some (false, .str n)) (some (f6, encA (shM ns a b))) (some (f7, encA (shM ns b a))) c8 c9 c10 c11 (some (f12, encA (mkA ns e))) c13 c14 c15 c16) = .ok false (env c0 c1 c2 (some (f3, encA (mkA ns a))) (some (f4, encA (mkA ns b))) (some (false, .str n)) (some (f6, encA (shM ns a b))) (some (f7, encA (shM ns b a))) c8 c9 c10 c11 (some (f12, encA (mkA ns e))) c13 c14 c15 c16) := by
        by_cases hin : n ∈ (shM ns b a).map (·.1)
        · rw [decide_eq_true hin] at i7
          exact and_yes (tst_ok (op2_ok rfl rfl rfl rfl i7)) (tst_ok (op2_ok (oE_ok (op2_ok rfl rfl rfl rfl ee)) (oE_ok (op2_ok rfl rfl rfl rfl eb)) rfl rfl lt2))
        · rw [decide_eq_false hin] at i7
          exact and_no (tst_ok (op2_ok rfl rfl rfl rfl i7))
      have t2 : andT (tstB (op2 (oV 5) (oV 6) inG)) (tstB (op2 (oE (op2 (oV 12) (oV 5) idxG)) (oE (op2 (oV 4) (oV 5) idxG)) neG)) (env c0 c1 c2 (some (f3, encA (mkA ns a))) (some (f4, encA (mkA ns b))) (some (false, .str n)) (some (f6, encA (shM ns a b))) (some (f7, encA (shM ns b a))) c8 c9 c10 c11 (some (f12, encA (mkA ns e))) c13 c14 c15 c16) = .ok false (env c0 c1 c2 (some (f3, encA (mkA ns a))) (some (f4, encA (mkA ns b))) (some (false, .str n)) (some (f6, encA (shM ns a b))) (some (f7, encA (shM ns b a))) c8 c9 c10 c11 (some (f12, encA (mkA ns e))) c13 c14 c15 c16) := by
        by_cases hin : n ∈ (shM ns a b).map (·.1)
        · have hp : a n < b n := by
            rw [shM_keys] at hin
            exact of_decide_eq_true (List.mem_filter.mp hin).2
          have ne1 : neG (.int (e n)) (.int (b n)) = some (false, .bool false) := by
            rw [h2 n hm hp]
            show some (false, PyData.bool (!decide (b n = b n))) = _
            rw [decide_eq_true rfl]; rfl
          rw [decide_eq_true hin] at i6
          exact and_yes (tst_ok (op2_ok rfl rfl rfl rfl i6)) (tst_ok (op2_ok (oE_ok (op2_ok rfl rfl rfl rfl ee)) (oE_ok (op2_ok rfl rfl rfl rfl eb)) rfl rfl ne1))
        · rw [decide_eq_false hin] at i6
          exact and_no (tst_ok (op2_ok rfl rfl rfl rfl i6))
      refine go_if (t := false) (or_no (tst_ok (op2_ok (oE_ok (op2_ok rfl rfl rfl rfl ee)) (oE_ok (opN_ok (aCons_ok (oE_ok (op2_ok rfl rfl rfl rfl eb)) (aCons_ok (oE_ok (op2_ok rfl rfl rfl rfl ea)) rfl)) rfl (r := (false, .int (mn (b n) (a n)))) rfl)) rfl rfl lt1)) (or_no t2 t3)) (fun q => by cases q) fun _ => ?_
      exact go_end rfl ⟨q, some (false, .str n), rfl, (List.sublist_cons_self n q).trans hsub, rfl⟩
end PKL
set_option maxHeartbeats 8000000
namespace PKL
open PySem PySem.Spec PyProof.Rows L2 PK K46
def rowsK (ns : List Str) (a b : Str → Int) : List K46.Row := ns.map fun n => (n, a n, b n)
theorem nms_of (ns : List Str) (a b : Str → Int) : nms (rowsK ns a b) = ns := by
  unfold nms rowsK; rw [List.map_map]; exact List.map_id ns
theorem hv_of (ns : List Str) (a b : Str → Int) : hv (rowsK ns a b) = mkA ns a := by
  unfold hv rowsK mkA; rw [List.map_map]; rfl
theorem nd_of (ns : List Str) (a b : Str → Int) : nd (rowsK ns a b) = mkA ns b := by
  unfold nd rowsK mkA; rw [List.map_map]; rfl
theorem sh_of (ns : List Str) (a b : Str → Int) : sh (rowsK ns a b) = shM ns a b := by
  unfold sh rowsK shM mkA
  rw [List.filter_map, List.map_map]; rfl
theorem sp_of (ns : List Str) (a b : Str → Int) : sp (rowsK ns a b) = shM ns b a := by
  unfold sp rowsK shM mkA
  rw [List.filter_map, List.map_map]; rfl
theorem val_mk {ns : List Str} {f : Str → Int} {n : Str} (h : n ∈ ns) : val (mkA ns f) n = f n := by
  unfold val; rw [look_mk h]; rfl
/-- what stands behind the moves, in words of functions -/
theorem after_facts {ns : List Str} {a b : Str → Int} (hn : ns.Nodup) (hf : fails (shM ns a b) (shM ns b a) = false) :
    ∃ e : Str → Int, appM (mkA ns a) (due (shM ns a b) (shM ns b a)).1 = mkA ns e ∧ (∀ n ∈ ns, b n ≤ e n) ∧ (∀ n ∈ ns, a n < b n → e n = b n) ∧ (ns.map e).sum = (ns.map a).sum := by
  have hn' : (nms (rowsK ns a b)).Nodup := by rw [nms_of]; exact hn
  have hf' : fails (sh (rowsK ns a b)) (sp (rowsK ns a b)) = false := by rw [sh_of, sp_of]; exact hf
  let f := (due (shM ns a b) (shM ns b a)).1
  let e : Str → Int := val (appM (mkA ns a) f)
  have keys : (appM (mkA ns a) f).map (·.1) = ns := by rw [appM_keys, mk_keys]
  have ev : ∀ n ∈ ns, e n = b n + val (due (shM ns a b) (shM ns b a)).2 n := fun n m => by
    have h := after_val hn' hf' (n := n) (by rw [nms_of]; exact m)
    rw [sh_of, sp_of, hv_of, nd_of, val_mk m] at h
    exact h
  have nn : ∀ n, 0 ≤ val (due (shM ns a b) (shM ns b a)).2 n := fun n => by
    refine val_nn (due_nn (fun p h => ?_) fun p h => ?_) n
    · rw [← sh_of] at h; exact Int.le_of_lt (sh_pos p h)
    · rw [← sp_of] at h; exact Int.le_of_lt (sp_pos p h)
  refine ⟨e, ?_, fun n m => by rw [ev n m]; have := nn n; omega, fun n m hp => ?_, ?_⟩
  · have := mk_val (A := appM (mkA ns a) f) (by rw [keys]; exact hn)
    rw [keys] at this
    exact this
  · rw [ev n m, val_out]
    · omega
    · rw [due_keys, shM_keys]
      intro h
      have := of_decide_eq_true (List.mem_filter.mp h).2
      omega
  · have h1 : ∀ m ∈ f, m.1 ∈ nms (rowsK ns a b) := fun m hm => by
      rw [nms_of]
      have := (due_mem hm).1
      rw [shM_keys] at this
      exact (List.mem_filter.mp this).1
    have h2 : ∀ m ∈ f, m.2.1 ∈ nms (rowsK ns a b) := fun m hm => by
      rw [nms_of]
      have := (due_mem hm).2
      rw [shM_keys] at this
      exact (List.mem_filter.mp this).1
    have := after_sum hn' f h1 h2
    rw [nms_of, hv_of] at this
    rw [show ns.map e = ns.map (val (appM (mkA ns a) f)) from rfl, this]
    congr 1
    exact List.map_congr_left fun n m => val_mk m
theorem eqv_str (x : Str) : PyData.eqv (.str x) (.str x) = true := by show decide (x = x) = true; simp
theorem fl_mv : ∀ (f : Mv) (n : Nat), flA (f.map mvD) (n + 1) = true
  | [], _ => rfl
  | m :: f, n => by
    show (flD (mvD m) (n + 1) && flA (f.map mvD) (n + 1)) = true
    rw [fl_mv f n]; rfl
theorem alike_mv : ∀ f : Mv, PySem.W.alikeAll (f.map mvD) (f.map mvD) = true
  | [] => rfl
  | m :: f => by
    show (PySem.W.alike (mvD m) (mvD m) && PySem.W.alikeAll (f.map mvD) (f.map mvD)) = true
    rw [alike_mv f]; rfl
theorem ne_mv (f : Mv) : neG (.list (f.map mvD)) (.list (f.map mvD)) = some (false, .bool false) := by
  have h : eqG (.list (f.map mvD)) (.list (f.map mvD)) = some (false, .bool true) := by
    show (if (flA (f.map mvD) 63 && flA (f.map mvD) 63) = true then some (false, PyData.bool (PyData.eqv (.list (f.map mvD)) (.list (f.map mvD)))) else none) = _
    rw [fl_mv f 62, Bool.and_self, if_pos rfl, PySem.W.eqv_refl_alike (.list (f.map mvD)) (alike_mv f)]
  unfold neG; rw [h]; rfl
theorem ne_int (i : Int) : neG (.int i) (.int i) = some (false, .bool false) := by
  show some (false, PyData.bool (!decide (i = i))) = _
  rw [decide_eq_true rfl]; rfl
end PKL
set_option maxHeartbeats 8000000
namespace PKL
open PySem PySem.Spec PyProof.Rows L2 PK K46
theorem itN_ok {ms : M (List PK.Tok)} {g : List D → Option (List D)} {ρ ρ1 : En} {ts : List PK.Tok} {xs ds : List D} (h : ms ρ = .ok ts ρ1) (hx : ts.mapM (rsv ρ1) = some xs) (hg : g xs = some ds) : itN ms g ρ = .ok ds ρ1 := by
  unfold itN bnd; rw [h]; simp only [hx, Option.bind_some, hg]
theorem rng1_ok {i : Int} (h0 : 0 ≤ i) (h1 : i < 1000000) : rng1G [.int i] = some (rngL 0 1 i.toNat) := by
  show (if wide i = true then some (rngL 0 1 i.toNat) else none) = _
  have : wide i = true := by
    unfold wide
    rw [Bool.and_eq_true, decide_eq_true_eq, decide_eq_true_eq]
    omega
  rw [if_pos this]
theorem shM_nil {ns : List Str} {a b : Str → Int} (h : ∀ n ∈ ns, ¬ a n < b n) : (ns.filter fun n => decide (a n < b n)) = [] := by
  rw [List.filter_eq_nil_iff]
  intro n m
  simpa using h n m
theorem go_at {a b : M Out} {ρ ρ1 : En} {Q : Res Out → Prop} (ρ2 : En) (h : a ρ = .ok .nxt ρ1) (e : ρ1 = ρ2) (k : Post (b ρ2) Q) : Post (seqM a b ρ) Q := by
  subst e; exact go_nxt h k
theorem and_t {x y : M (Bool × D)} {ρ ρ1 : En} {r : Res (Bool × D)} (h : x ρ = .ok (false, .bool true) ρ1) (h2 : y ρ1 = r) : andV x y ρ = r := by
  unfold andV bnd; rw [h]; exact h2
/-- [d[name] for name in names], d the dict in slot j -/
theorem over_ok {c0 c1 c3 c4 c5 c6 c7 c8 c9 c10 c11 c12 c13 c14 c15 c16 : Ce} {ns : List Str} {e : Str → Int} {j : Nat} (hl : ns.length ≤ 1000)
    (hj : ∀ n : Str, (oV j) (env c0 c1 (some (false, .list (strL ns))) c3 c4 (some (false, .str n)) c6 c7 c8 c9 c10 c11 c12 c13 c14 c15 c16) = .ok (.slot j) (env c0 c1 (some (false, .list (strL ns))) c3 c4 (some (false, .str n)) c6 c7 c8 c9 c10 c11 c12 c13 c14 c15 c16)) (hr : ∀ n : Str, rsv (env c0 c1 (some (false, .list (strL ns))) c3 c4 (some (false, .str n)) c6 c7 c8 c9 c10 c11 c12 c13 c14 c15 c16) (.slot j) = some (encA (mkA ns e))) :
    lcN [5] 2 (pN (prV [5]) 5) yesM (op2 (oV j) (oV 5) idxG) (env c0 c1 (some (false, .list (strL ns))) c3 c4 c5 c6 c7 c8 c9 c10 c11 c12 c13 c14 c15 c16) = .ok (true, .list ((ns.map e).map .int)) (env c0 c1 (some (false, .list (strL ns))) c3 c4 c5 c6 c7 c8 c9 c10 c11 c12 c13 c14 c15 c16) := by
  rw [lcN_seq (fl := false) (ds := strL ns) rfl]
  refine lc_ok (ds := strL ns) (xs := (ns.map e).map .int) (ρ1 := env c0 c1 (some (false, .list (strL ns))) c3 c4 c5 c6 c7 c8 c9 c10 c11 c12 c13 c14 c15 c16) (ρ2 := env c0 c1 (some (false, .list (strL ns))) c3 c4 none c6 c7 c8 c9 c10 c11 c12 c13 c14 c15 c16) (it_ok (fl := false) (d := .list (strL ns)) rfl rfl) ?_ (by rw [List.length_map, List.length_map]; unfold LIM; omega)
  show lcL [5] _ _ _ _ (env c0 c1 (some (false, .list (strL ns))) c3 c4 none c6 c7 c8 c9 c10 c11 c12 c13 c14 c15 c16) = _
  rw [lcL_pure (p := fun _ => true) (v := onS fun n => .int (e n))]
  · rw [List.filter_eq_self.mpr fun _ _ => rfl]
    unfold strL
    rw [List.map_map, List.map_map]; rfl
  · intro d hd
    obtain ⟨n, hm, rfl⟩ := List.mem_map.mp hd
    exact ⟨env c0 c1 (some (false, .list (strL ns))) c3 c4 (some (false, .str n)) c6 c7 c8 c9 c10 c11 c12 c13 c14 c15 c16, env c0 c1 (some (false, .list (strL ns))) c3 c4 (some (false, .str n)) c6 c7 c8 c9 c10 c11 c12 c13 c14 c15 c16, false, rfl, rfl, fun _ => ⟨op2_ok (hj n) rfl (hr n) rfl (idx_mk hm), rfl⟩, fun q => by cases q⟩
theorem law_pure (ns0 : List Int) : ∃ fl m, run 6 .flaw [scrD ns0] = .ok fl (.bool true) m := by
  suffices h : Post (D_law (run 5) (env (some (false, scrD ns0)) none none none none none none none none none none none none none none none none)) (fun r => ∃ fl m, endF none r = .ok fl (.bool true) m) from h
  unfold D_law
  refine go_nxt (asg_ok (callF_ok (aCons_ok rfl rfl) rfl (run_state (k := 4))) rfl) ?_
  obtain ⟨i, st1, i0, i8, s1, e1⟩ := run_draw (k := 4) (d := stD ns0 0 0 0 false) (limit := 8) ⟨ns0, 0, 0, 0, false, Int.le_refl 0, rfl⟩ (by decide) (by decide)
  refine go_nxt (asg_ok (lc_ok (ρ1 := env (some (false, scrD ns0)) (some (true, st1)) none none none none none none none none none none none none none none none) (itN_ok (aCons_ok (oE_ok (callM_ok (aCons_ok rfl (aCons_ok rfl rfl)) rfl rfl rfl e1)) rfl) rfl (rng1_ok i0 (by omega))) (names_ok (n := i.toNat) (by omega) (fun _ => rfl) (fun _ => rfl)) (by unfold strL LIM; rw [List.length_map, List.length_take]; omega)) rfl) ?_
  have hs : SortN (nameL.take i.toNat) := sort_sub sort_nameL (List.take_sublist _ _)
  have hn : (nameL.take i.toNat).Nodup := nodup_nameL.sublist (List.take_sublist _ _)
  have hl : (nameL.take i.toNat).length ≤ 1000 := by rw [List.length_take]; omega
  generalize nameL.take i.toNat = ns at hs hn hl ⊢
  refine go_nxt rfl ?_
  refine go_nxt (ρ1 := env (some (false, scrD ns0)) (some (true, st1)) (some (true, .list (strL ns))) (some (true, encA [])) (some (true, encA [])) none none none none none none none none none none none none) rfl ?_
  refine go_seq ?_
  rw [forN_seq (fl := true) (ds := strL ns) rfl]
  refine go_for (it_ok (fl := false) (d := .list (strL ns)) rfl rfl) ?_
  refine go_mono (stocks_ok (k := 4) s1 hn hl) ?_
  rintro _ ⟨st2, c5, a, b, s2, rfl⟩
  refine go_nxt rfl ?_
  refine go_nxt (ρ1 := env (some (false, scrD ns0)) (some (true, st2)) (some (false, .list (strL ns))) (some (true, encA (mkA ns a))) (some (true, encA (mkA ns b))) c5 (some (true, encA [])) (some (true, encA [])) none none none none none none none none none) rfl ?_
  refine go_seq ?_
  rw [forN_seq (fl := false) (ds := strL ns) rfl]
  refine go_for (it_ok (fl := false) (d := .list (strL ns)) rfl rfl) ?_
  refine go_mono (gaps_ok hn hl) ?_
  rintro _ ⟨c5', rfl⟩
  have nS : ((shM ns a b).map (·.1)).Nodup := by rw [shM_keys]; exact hn.sublist List.filter_sublist
  have nP : ((shM ns b a).map (·.1)).Nodup := by rw [shM_keys]; exact hn.sublist List.filter_sublist
  have lS : (shM ns a b).length ≤ 1000 := Nat.le_trans (shM_len _ _ _) hl
  have lP : (shM ns b a).length ≤ 1000 := Nat.le_trans (shM_len _ _ _) hl
  have r1 : run 5 .fshort_of [encA (mkA ns a), encA (mkA ns b)] = .ok true (encA (shM ns a b)) none := run_short (k := 4) hs hn hl
  have r2 : run 5 .fspare_of [encA (mkA ns a), encA (mkA ns b)] = .ok true (encA (shM ns b a)) none := run_spare (k := 4) hs hn hl
  have r3 : run 5 .f_law_told [encA (mkA ns a), encA (mkA ns b)] = if fails (shM ns a b) (shM ns b a) then .ok false .none none else .ok true (.list ((due (shM ns a b) (shM ns b a)).1.map mvD)) none := run_told (k := 3) (run_trans (k := 2) hs hn hl)
  have dA := dict_enc (mkA ns a)
  have dB := dict_enc (mkA ns b)
  -- short_of and spare_of as the law has them
  refine go_seq (go_if (t := false) (or_no (tst_ok (op2_ok (oE_ok (callF_ok (aCons_ok (oE_ok (opN_ok (aCons_ok rfl rfl) rfl dA)) (aCons_ok (oE_ok (opN_ok (aCons_ok rfl rfl) rfl dB)) rfl)) rfl r1)) rfl rfl rfl (ne_self nS))) (tst_ok (op2_ok (oE_ok (callF_ok (aCons_ok (oE_ok (opN_ok (aCons_ok rfl rfl) rfl dA)) (aCons_ok (oE_ok (opN_ok (aCons_ok rfl rfl) rfl dB)) rfl)) rfl r2)) rfl rfl rfl (ne_self nP)))) (fun q => by cases q) fun _ => ?_)
  refine go_end rfl ?_
  show Post _ _
  refine go_at (env (some (false, scrD ns0)) (some (true, st2)) (some (false, .list (strL ns))) (some (true, encA (mkA ns a))) (some (true, encA (mkA ns b))) c5' (some (false, encA (shM ns a b))) (some (true, encA (shM ns b a))) (some (false, .int (tot (shM ns a b)))) none none none none none none none none)
    (asg_ok (opN_ok (ds := [.list (((shM ns a b).map (·.2)).map .int)]) (aCons_ok (oE_ok (vals_ok (fl := true) nS lS rfl (by decide) (by show 5 < 17; decide))) rfl) rfl (sum_ints _)) rfl) rfl ?_
  have p1 : ∀ p ∈ shM ns a b, 0 ≤ p.2 := fun p h => by rw [← sh_of] at h; exact Int.le_of_lt (sh_pos p h)
  have p2 : ∀ p ∈ shM ns b a, 0 ≤ p.2 := fun p h => by rw [← sp_of] at h; exact Int.le_of_lt (sp_pos p h)
  have iff := fails_iff p1 p2
  have cond : ∀ c9 : Ce, (tstB (op2 (oV 8) (oE (opN (aCons (oE (lcN [5] 7 (pN (prV [5]) 5) (yesM) (op2 (oV 7) (oV 5) idxG))) (aNil)) sumG)) gtG)) (env (some (false, scrD ns0)) (some (true, st2)) (some (false, .list (strL ns))) (some (true, encA (mkA ns a))) (some (true, encA (mkA ns b))) c5' (some (false, encA (shM ns a b))) (some (true, encA (shM ns b a))) (some (false, .int (tot (shM ns a b)))) c9 none none none none none none none)
      = .ok (decide (tot (shM ns b a) < tot (shM ns a b))) (env (some (false, scrD ns0)) (some (true, st2)) (some (false, .list (strL ns))) (some (true, encA (mkA ns a))) (some (true, encA (mkA ns b))) c5' (some (false, encA (shM ns a b))) (some (false, encA (shM ns b a))) (some (false, .int (tot (shM ns a b)))) c9 none none none none none none none) := fun c9 =>
    tst_ok (op2_ok rfl (oE_ok (opN_ok (ds := [.list (((shM ns b a).map (·.2)).map .int)]) (aCons_ok (oE_ok (vals_ok (fl := true) nP lP rfl (by decide) (by show 5 < 17; decide))) rfl) rfl (sum_ints _))) rfl rfl rfl)
  cases hf : fails (shM ns a b) (shM ns b a) with
  | true =>
    rw [hf, if_pos rfl] at r3
    refine go_at (env (some (false, scrD ns0)) (some (true, st2)) (some (false, .list (strL ns))) (some (true, encA (mkA ns a))) (some (true, encA (mkA ns b))) c5' (some (false, encA (shM ns a b))) (some (true, encA (shM ns b a))) (some (false, .int (tot (shM ns a b)))) (some (false, .none)) none none none none none none none)
      (asg_ok (callF_ok (aCons_ok (oE_ok (opN_ok (aCons_ok rfl rfl) rfl dA)) (aCons_ok (oE_ok (opN_ok (aCons_ok rfl rfl) rfl dB)) rfl)) rfl r3) rfl) rfl ?_
    have ht := cond (some (false, .none))
    rw [decide_eq_true (iff.mp hf)] at ht
    refine go_seq (go_if ht (fun _ => ?_) fun q => by cases q)
    exact go_end (ret_ok (op2_ok rfl rfl rfl rfl (r := (false, .bool true)) rfl)) ⟨false, none, rfl⟩
  | false =>
    rw [hf, if_neg (by decide)] at r3
    have hle : ¬ tot (shM ns b a) < tot (shM ns a b) := fun h => by rw [iff.mpr h] at hf; cases hf
    refine go_at (env (some (false, scrD ns0)) (some (true, st2)) (some (false, .list (strL ns))) (some (true, encA (mkA ns a))) (some (true, encA (mkA ns b))) c5' (some (false, encA (shM ns a b))) (some (true, encA (shM ns b a))) (some (false, .int (tot (shM ns a b)))) (some (true, .list ((due (shM ns a b) (shM ns b a)).1.map mvD))) none none none none none none none)
      (asg_ok (callF_ok (aCons_ok (oE_ok (opN_ok (aCons_ok rfl rfl) rfl dA)) (aCons_ok (oE_ok (opN_ok (aCons_ok rfl rfl) rfl dB)) rfl)) rfl r3) rfl) rfl ?_
    have ht := cond (some (true, .list ((due (shM ns a b) (shM ns b a)).1.map mvD)))
    rw [decide_eq_false hle] at ht
    refine go_seq (go_if ht (fun q => by cases q) fun _ => ?_)
    refine go_end rfl ?_
    show Post _ _
    refine go_nxt rfl ?_
    refine go_at (env (some (false, scrD ns0)) (some (true, st2)) (some (false, .list (strL ns))) (some (true, encA (mkA ns a))) (some (true, encA (mkA ns b))) c5' (some (false, encA (shM ns a b))) (some (false, encA (shM ns b a))) (some (false, .int (tot (shM ns a b)))) (some (true, .list ((due (shM ns a b) (shM ns b a)).1.map mvD))) (some (true, .list [])) (some (true, encA (shM ns b a))) none none none none none)
      (asg_ok (opN_ok (aCons_ok rfl rfl) rfl (dict_enc (shM ns b a))) rfl) rfl ?_
    refine go_seq ?_
    rw [forN_seq (fl := false) (ds := strL ns) rfl]
    refine go_for (it_ok (fl := false) (d := .list (strL ns)) rfl rfl) ?_
    refine go_mono (dueO_ok hn hl) ?_
    rintro _ ⟨g2, d5, d14, d15, d16, rfl⟩
    have lD : (due (shM ns a b) (shM ns b a)).1.length ≤ 1000000 := by
      have h1 := due_len (shM ns a b) (shM ns b a)
      have h2 : (shM ns a b).length * (shM ns b a).length ≤ 1000 * 1000 := Nat.mul_le_mul lS lP
      omega
    have rm : run 5 .fmoved_items [.list ((due (shM ns a b) (shM ns b a)).1.map mvD)] = .ok false (.int (tot (shM ns a b))) none := by
      rw [← (due_tot p1 p2 hf).1]
      exact run_moved (k := 4) lD
    refine go_seq (go_if (t := false) (or_no (tst_ok (op2_ok rfl rfl rfl rfl (ne_mv _))) (tst_ok (op2_ok (oE_ok (call_ok (aCons_ok (oE_ok (opN_ok (aCons_ok rfl rfl) rfl (r := (true, .list ((due (shM ns a b) (shM ns b a)).1.map mvD))) rfl)) rfl) rfl rm rfl)) rfl rfl rfl (ne_int _)))) (fun q => by cases q) fun _ => ?_)
    refine go_end rfl ?_
    show Post _ _
    obtain ⟨e, ee, e1, e2, e3⟩ := after_facts (a := a) (b := b) hn hf
    have ra : run 5 .fafter_transfers [encA (mkA ns a), .list ((due (shM ns a b) (shM ns b a)).1.map mvD)] = .ok true (encA (mkA ns e)) none := by
      rw [← ee]
      refine run_after (k := 4) (by rw [mk_keys]; exact hn) (by unfold mkA; rw [List.length_map]; exact hl) (fun m hm => ?_) fun m hm => ?_
      · have := (due_mem hm).1
        rw [shM_keys] at this
        rw [mk_keys]
        exact (List.mem_filter.mp this).1
      · have := (due_mem hm).2
        rw [shM_keys] at this
        rw [mk_keys]
        exact (List.mem_filter.mp this).1
    refine go_at (env (some (false, scrD ns0)) (some (true, st2)) (some (g2, .list (strL ns))) (some (true, encA (mkA ns a))) (some (true, encA (mkA ns b))) d5 (some (false, encA (shM ns a b))) (some (false, encA (shM ns b a))) (some (false, .int (tot (shM ns a b)))) (some (true, .list ((due (shM ns a b) (shM ns b a)).1.map mvD))) (some (true, .list ((due (shM ns a b) (shM ns b a)).1.map mvD))) (some (true, encA (due (shM ns a b) (shM ns b a)).2)) (some (true, encA (mkA ns e))) none d14 d15 d16)
      (asg_ok (callF_ok (aCons_ok (oE_ok (opN_ok (aCons_ok rfl rfl) rfl dA)) (aCons_ok (oE_ok (opN_ok (aCons_ok rfl rfl) rfl (r := (true, .list ((due (shM ns a b) (shM ns b a)).1.map mvD))) rfl)) rfl)) rfl ra) rfl) rfl ?_
    refine go_seq ?_
    rw [forN_seq (fl := g2) (ds := strL ns) rfl]
    have ef : itM (rV 2) (env (some (false, scrD ns0)) (some (true, st2)) (some (g2, .list (strL ns))) (some (true, encA (mkA ns a))) (some (true, encA (mkA ns b))) d5 (some (false, encA (shM ns a b))) (some (false, encA (shM ns b a))) (some (false, .int (tot (shM ns a b)))) (some (true, .list ((due (shM ns a b) (shM ns b a)).1.map mvD))) (some (true, .list ((due (shM ns a b) (shM ns b a)).1.map mvD))) (some (true, encA (due (shM ns a b) (shM ns b a)).2)) (some (true, encA (mkA ns e))) none d14 d15 d16)
        = .ok (strL ns) (env (some (false, scrD ns0)) (some (true, st2)) (some (false, .list (strL ns))) (some (true, encA (mkA ns a))) (some (true, encA (mkA ns b))) d5 (some (false, encA (shM ns a b))) (some (false, encA (shM ns b a))) (some (false, .int (tot (shM ns a b)))) (some (true, .list ((due (shM ns a b) (shM ns b a)).1.map mvD))) (some (true, .list ((due (shM ns a b) (shM ns b a)).1.map mvD))) (some (true, encA (due (shM ns a b) (shM ns b a)).2)) (some (true, encA (mkA ns e))) none d14 d15 d16) := by
      cases g2 <;> exact it_ok (fl := false) (d := .list (strL ns)) rfl rfl
    refine go_for ef ?_
    refine go_mono (check_ok e1 e2) ?_
    rintro _ ⟨d5', rfl⟩
    have r4 : run 5 .fshort_of [encA (mkA ns e), encA (mkA ns b)] = .ok true (encA []) none := by
      have := run_short (k := 4) (a := e) (b := b) hs hn hl
      rw [shM_nil fun n m h => by have := e1 n m; omega] at this
      exact this
    have s1 := over_ok (c0 := some (false, scrD ns0)) (c1 := some (true, st2)) (c3 := some (true, encA (mkA ns a))) (c4 := some (true, encA (mkA ns b))) (c5 := d5') (c6 := some (false, encA (shM ns a b))) (c7 := some (false, encA (shM ns b a))) (c8 := some (false, .int (tot (shM ns a b)))) (c9 := some (true, .list ((due (shM ns a b) (shM ns b a)).1.map mvD))) (c10 := some (true, .list ((due (shM ns a b) (shM ns b a)).1.map mvD))) (c11 := some (true, encA (due (shM ns a b) (shM ns b a)).2)) (c12 := some (true, encA (mkA ns e))) (c13 := none) (c14 := d14) (c15 := d15) (c16 := d16) (e := e) (j := 12) hl (fun _ => rfl) (fun _ => rfl)
    have s2 := over_ok (c0 := some (false, scrD ns0)) (c1 := some (true, st2)) (c3 := some (true, encA (mkA ns a))) (c4 := some (true, encA (mkA ns b))) (c5 := d5') (c6 := some (false, encA (shM ns a b))) (c7 := some (false, encA (shM ns b a))) (c8 := some (false, .int (tot (shM ns a b)))) (c9 := some (true, .list ((due (shM ns a b) (shM ns b a)).1.map mvD))) (c10 := some (true, .list ((due (shM ns a b) (shM ns b a)).1.map mvD))) (c11 := some (true, encA (due (shM ns a b) (shM ns b a)).2)) (c12 := some (true, encA (mkA ns e))) (c13 := none) (c14 := d14) (c15 := d15) (c16 := d16) (e := a) (j := 3) hl (fun _ => rfl) (fun _ => rfl)
    refine go_seq (go_if (t := false) (or_no (tst_ok (op2_ok (oE_ok (opN_ok (ds := [.list ((ns.map e).map .int)]) (aCons_ok (oE_ok s1) rfl) rfl (sum_ints _))) (oE_ok (opN_ok (ds := [.list ((ns.map a).map .int)]) (aCons_ok (oE_ok s2) rfl) rfl (sum_ints _))) rfl rfl (by rw [e3]; exact ne_int _)))
      (tst_ok (op2_ok (oE_ok (callF_ok (aCons_ok (oE_ok (opN_ok (aCons_ok rfl rfl) rfl (dict_enc (mkA ns e)))) (aCons_ok (oE_ok (opN_ok (aCons_ok rfl rfl) rfl dB)) rfl)) rfl r4)) rfl rfl rfl (ne_self (A := []) .nil)))) (fun q => by cases q) fun _ => ?_)
    refine go_end rfl ?_
    show Post _ _
    have q1 : run 5 .f_law_told [.dict [], .dict []] = .ok true (.list []) none := run_told (k := 3) (run_trans (k := 2) (ns := []) (a := fun _ => 0) (b := fun _ => 0) .nil .nil (by decide))
    have q2 : run 5 .fmoved_items [.list []] = .ok false (.int 0) none := run_moved (k := 4) (f := []) (by decide)
    have q3 : run 5 .fafter_transfers [encA [("sa", 5)], .list []] = .ok true (encA [("sa", 5)]) none := run_after (k := 4) (A := [("sa", 5)]) (f := []) (by decide) (by decide) (fun _ h => by cases h) fun _ h => by cases h
    refine go_end (ret_ok (and_t (op2_ok (oE_ok (callF_ok (aCons_ok (oE_ok rfl) (aCons_ok (oE_ok rfl) rfl)) rfl q1)) rfl rfl rfl rfl) (and_t (op2_ok (oE_ok (call_ok (aCons_ok (oE_ok rfl) rfl) rfl q2 rfl)) rfl rfl rfl rfl) (op2_ok (oE_ok (callF_ok (aCons_ok (oE_ok rfl) (aCons_ok (oE_ok rfl) rfl)) rfl q3)) rfl rfl rfl (eq_self (A := [("sa", 5)]) (by decide)))))) ⟨false, none, rfl⟩
end PKL
namespace PKL
open PySem PySem.Spec PyProof.Rows L2 PK K46
theorem law_true (ns : List Int) (_ : ns.length ≤ 63) : ∃ fl m, run 6 .flaw [scrD ns] = .ok fl (.bool true) m := law_pure ns
end PKL
set_option maxHeartbeats 0
namespace PKL
open PySem PySem.Spec PyProof.Rows L2 PK
theorem all_mk {l : PySem.W.OpenLaw} {w : World} {K : PySem.W.Frag} {h : Heap} {mg : Str → Option Value} {fa : Addr} (X : K.In h) (N : h.Ns mainGlobals mg) (hfa : mg "law" = some (.ref fa))
    {f0 : Addr} {oc0 kV0 dc0 pm0 cd0 ct0 : Value} {od0 an0 : Option Addr} {sl0 : Array (Option Value)}
    {f1 : Addr} {oc1 kV1 dc1 pm1 cd1 ct1 : Value} {od1 an1 : Option Addr} {sl1 : Array (Option Value)}
    {f2 : Addr} {oc2 kV2 dc2 pm2 cd2 ct2 : Value} {od2 an2 : Option Addr} {sl2 : Array (Option Value)}
    {f3 : Addr} {oc3 kV3 dc3 pm3 cd3 ct3 : Value} {od3 an3 : Option Addr} {sl3 : Array (Option Value)}
    {f4 : Addr} {oc4 kV4 dc4 pm4 cd4 ct4 : Value} {od4 an4 : Option Addr} {sl4 : Array (Option Value)}
    {f5 : Addr} {oc5 kV5 dc5 pm5 cd5 ct5 : Value} {od5 an5 : Option Addr} {sl5 : Array (Option Value)}
    {f6 : Addr} {oc6 kV6 dc6 pm6 cd6 ct6 : Value} {od6 an6 : Option Addr} {sl6 : Array (Option Value)}
    {f7 : Addr} {oc7 kV7 dc7 pm7 cd7 ct7 : Value} {od7 an7 : Option Addr} {sl7 : Array (Option Value)}
    {f8 : Addr} {oc8 kV8 dc8 pm8 cd8 ct8 : Value} {od8 an8 : Option Addr} {sl8 : Array (Option Value)}
    {C_np : Addr}
    (a0 : PySem.W.nsIn K mainGlobals "short_of" = some (some (.ref f0)))
    (l0 : K.lookup f0 = some ⟨oc0, od0, .func (PySem.W.fnOf "short_of" "short_of" (defArgs st_short_of) (defBody st_short_of) (defScope st_short_of) .none kV0 dc0 pm0 an0 cd0 ct0), sl0⟩)
    (c0 : PySem.W.codeIn K cd0 "short_of" = true)
    (k0 : PySem.W.keepIn K (.ref f0) = true)
    (a1 : PySem.W.nsIn K mainGlobals "spare_of" = some (some (.ref f1)))
    (l1 : K.lookup f1 = some ⟨oc1, od1, .func (PySem.W.fnOf "spare_of" "spare_of" (defArgs st_spare_of) (defBody st_spare_of) (defScope st_spare_of) .none kV1 dc1 pm1 an1 cd1 ct1), sl1⟩)
    (c1 : PySem.W.codeIn K cd1 "spare_of" = true)
    (k1 : PySem.W.keepIn K (.ref f1) = true)
    (a2 : PySem.W.nsIn K mainGlobals "transfers" = some (some (.ref f2)))
    (l2 : K.lookup f2 = some ⟨oc2, od2, .func (PySem.W.fnOf "transfers" "transfers" (defArgs st_transfers) (defBody st_transfers) (defScope st_transfers) .none kV2 dc2 pm2 an2 cd2 ct2), sl2⟩)
    (c2 : PySem.W.codeIn K cd2 "transfers" = true)
    (k2 : PySem.W.keepIn K (.ref f2) = true)
    (a3 : PySem.W.nsIn K mainGlobals "after_transfers" = some (some (.ref f3)))
    (l3 : K.lookup f3 = some ⟨oc3, od3, .func (PySem.W.fnOf "after_transfers" "after_transfers" (defArgs st_after_transfers) (defBody st_after_transfers) (defScope st_after_transfers) .none kV3 dc3 pm3 an3 cd3 ct3), sl3⟩)
    (c3 : PySem.W.codeIn K cd3 "after_transfers" = true)
    (k3 : PySem.W.keepIn K (.ref f3) = true)
    (a4 : PySem.W.nsIn K mainGlobals "moved_items" = some (some (.ref f4)))
    (l4 : K.lookup f4 = some ⟨oc4, od4, .func (PySem.W.fnOf "moved_items" "moved_items" (defArgs st_moved_items) (defBody st_moved_items) (defScope st_moved_items) .none kV4 dc4 pm4 an4 cd4 ct4), sl4⟩)
    (c4 : PySem.W.codeIn K cd4 "moved_items" = true)
    (k4 : PySem.W.keepIn K (.ref f4) = true)
    (a5 : PySem.W.nsIn K mainGlobals "_law_state" = some (some (.ref f5)))
    (l5 : K.lookup f5 = some ⟨oc5, od5, .func (PySem.W.fnOf "_law_state" "_law_state" (defArgs st__law_state) (defBody st__law_state) (defScope st__law_state) .none kV5 dc5 pm5 an5 cd5 ct5), sl5⟩)
    (c5 : PySem.W.codeIn K cd5 "_law_state" = true)
    (k5 : PySem.W.keepIn K (.ref f5) = true)
    (a6 : PySem.W.nsIn K mainGlobals "_law_draw" = some (some (.ref f6)))
    (l6 : K.lookup f6 = some ⟨oc6, od6, .func (PySem.W.fnOf "_law_draw" "_law_draw" (defArgs st__law_draw) (defBody st__law_draw) (defScope st__law_draw) .none kV6 dc6 pm6 an6 cd6 ct6), sl6⟩)
    (c6 : PySem.W.codeIn K cd6 "_law_draw" = true)
    (k6 : PySem.W.keepIn K (.ref f6) = true)
    (a7 : PySem.W.nsIn K mainGlobals "_law_told" = some (some (.ref f7)))
    (l7 : K.lookup f7 = some ⟨oc7, od7, .func (PySem.W.fnOf "_law_told" "_law_told" (defArgs st__law_told) (defBody st__law_told) (defScope st__law_told) .none kV7 dc7 pm7 an7 cd7 ct7), sl7⟩)
    (c7 : PySem.W.codeIn K cd7 "_law_told" = true)
    (k7 : PySem.W.keepIn K (.ref f7) = true)
    (a8 : PySem.W.nsIn K mainGlobals "law" = some (some (.ref f8)))
    (l8 : K.lookup f8 = some ⟨oc8, od8, .func (PySem.W.fnOf "law" "law" (defArgs st_law) (defBody st_law) (defScope st_law) .none kV8 dc8 pm8 an8 cd8 ct8), sl8⟩)
    (c8 : PySem.W.codeIn K cd8 "law" = true)
    (k8 : PySem.W.keepIn K (.ref f8) = true)
    (z_dict : PySem.W.nsIn K mainGlobals "dict" = some none)
    (z_int : PySem.W.nsIn K mainGlobals "int" = some none)
    (z_len : PySem.W.nsIn K mainGlobals "len" = some none)
    (z_list : PySem.W.nsIn K mainGlobals "list" = some none)
    (z_min : PySem.W.nsIn K mainGlobals "min" = some none)
    (z_range : PySem.W.nsIn K mainGlobals "range" = some none)
    (z_sorted : PySem.W.nsIn K mainGlobals "sorted" = some none)
    (z_sum : PySem.W.nsIn K mainGlobals "sum" = some none)
    (aC_np : PySem.W.nsIn K mainGlobals "NotPossible" = some (some (.ref C_np)))
    (xC_np : PySem.W.excIn K C_np [.type "ValueError", .type "Exception", .type "BaseException", .type "object"] "ValueError.__new__" = true)
    (kC_np : PySem.W.keepIn K (.ref C_np) = true)
    (bC_np : PySem.W.subIn K (.ref C_np) (.type "BaseException") = some true)
    (tC_np : PySem.W.typeIn K (.ref C_np) = some (.type "type"))
    (iC_np : PySem.W.isClsIn K C_np = true)
    (s_np_np : PySem.W.subIn K (.ref C_np) (.ref C_np) = some true) :
    ∃ fd : FuncData, (∀ (s : Shared) (v : Value), BindsTo s fd ⟨[v], []⟩ [("script", v)]) ∧ ∀ base : Heap, K.In base → base.Ns mainGlobals mg → FnOk l.prog w K mg base (L2.CX l.prog w) 6 fa fd ["script"] (spLaw K) := by
  have e := hfa.symm.trans (PySem.W.mg_of X N a8)
  cases e
  refine ⟨PySem.W.fnOf "law" "law" (defArgs st_law) (defBody st_law) (defScope st_law) .none kV8 dc8 pm8 an8 cd8 ct8, fun s v => .of_eq rfl, fun base _ _ => ?_⟩
  let T : XT := { K := K, np := C_np, tl := 0, te := 0, pr := fun _ => false }
  let G : G0 := ⟨l.prog, w, mg, base⟩
  have E : Facts G T := {
    b_dict := PySem.W.mg_none_of X N z_dict
    b_int := PySem.W.mg_none_of X N z_int
    b_len := PySem.W.mg_none_of X N z_len
    b_list := PySem.W.mg_none_of X N z_list
    b_min := PySem.W.mg_none_of X N z_min
    b_range := PySem.W.mg_none_of X N z_range
    b_sorted := PySem.W.mg_none_of X N z_sorted
    b_sum := PySem.W.mg_none_of X N z_sum
    x_np := exc_cls (K := K) rfl X N aC_np xC_np kC_np bC_np tC_np
    cat_np := fun F cls d x b ex q => by cases ex <;> (first | (cases q; done) | (cases q; first | exact exm_gen bC_np iC_np tC_np s_np_np))
    nothing := trivial }
  have D1 : ∀ f, Def1 G T (name f) (stmt f) (pars f) := fun f => match f with
    | .fshort_of => def1 (K := K) rfl X N a0 l0 c0 k0 fun _ _ _ _ _ _ us hl => match us, hl with | [_, _], _ => rfl
    | .fspare_of => def1 (K := K) rfl X N a1 l1 c1 k1 fun _ _ _ _ _ _ us hl => match us, hl with | [_, _], _ => rfl
    | .ftransfers => def1 (K := K) rfl X N a2 l2 c2 k2 fun _ _ _ _ _ _ us hl => match us, hl with | [_, _], _ => rfl
    | .fafter_transfers => def1 (K := K) rfl X N a3 l3 c3 k3 fun _ _ _ _ _ _ us hl => match us, hl with | [_, _], _ => rfl
    | .fmoved_items => def1 (K := K) rfl X N a4 l4 c4 k4 fun _ _ _ _ _ _ us hl => match us, hl with | [_], _ => rfl
    | .f_law_state => def1 (K := K) rfl X N a5 l5 c5 k5 fun _ _ _ _ _ _ us hl => match us, hl with | [_], _ => rfl
    | .f_law_draw => def1 (K := K) rfl X N a6 l6 c6 k6 fun _ _ _ _ _ _ us hl => match us, hl with | [_, _], _ => rfl
    | .f_law_told => def1 (K := K) rfl X N a7 l7 c7 k7 fun _ _ _ _ _ _ us hl => match us, hl with | [_, _], _ => rfl
    | .flaw => def1 (K := K) rfl X N a8 l8 c8 k8 fun _ _ _ _ _ _ us hl => match us, hl with | [_], _ => rfl
  have F := all E D1 6 .flaw
  obtain ⟨f, fd, ps, q1, q2, q3, q4⟩ := F.ex
  have LW := fn_law (G := G) (T := T) (x := "law") (st := st_law) (ps := ["script"]) (n := 5) l8 c8 k8 (scope .flaw) (body ⟨E, all E D1 5⟩ .flaw)
  exact FnOk.imp LW fun vs H Q E hs => law_sp (T := T) law_true vs H Q E hs
end PKL
open PySem PySem.W PyProof.Rows
theorem PySem.Challenge.cw_shelvesfilled_k46_whole_transfers_betwee_holds : PySem.Challenge.rw_shelvesfilled_k46_whole_transfers_betwee.Holds := by
  w_on; o_law; k_head; (case hw => w_witness2)
  k_fill
  refine L2.walk_of (l := PySem.Challenge.rw_shelvesfilled_k46_whole_transfers_betwee) (n := 63) (k := 6) (x := "script") (CX := fun w => L2.CX PySem.Challenge.rw_shelvesfilled_k46_whole_transfers_betwee.prog w) (sp := fun w => PK.spLaw _) rfl (by decide) rfl ⟨rfl, by decide, by decide⟩ (fun w h Y => PySem.W.kIn_of Y) ?F (fun _ _ a ns hl _ hS => ⟨a, ns, rfl, hS, hl, fun _ => rfl⟩) (fun w H s e s' z => by obtain ⟨_, _, _, _, _, z⟩ := z; exact z.2.2.2.2.2.2.2)
  case F =>
    intro w mg fa h KX G hmg
    refine' PKL.all_mk KX G hmg ?a0 ?l0 ?c0 ?k0 ?a1 ?l1 ?c1 ?k1 ?a2 ?l2 ?c2 ?k2 ?a3 ?l3 ?c3 ?k3 ?a4 ?l4 ?c4 ?k4 ?a5 ?l5 ?c5 ?k5 ?a6 ?l6 ?c6 ?k6 ?a7 ?l7 ?c7 ?k7 ?a8 ?l8 ?c8 ?k8 ?z_dict ?z_int ?z_len ?z_list ?z_min ?z_range ?z_sorted ?z_sum ?aC_np ?xC_np ?kC_np ?bC_np ?tC_np ?iC_np ?s_np_np
    (case a0 => k_is)
    (case l0 => k_is)
    (case c0 => k_is)
    (case k0 => k_is)
    (case a1 => k_is)
    (case l1 => k_is)
    (case c1 => k_is)
    (case k1 => k_is)
    (case a2 => k_is)
    (case l2 => k_is)
    (case c2 => k_is)
    (case k2 => k_is)
    (case a3 => k_is)
    (case l3 => k_is)
    (case c3 => k_is)
    (case k3 => k_is)
    (case a4 => k_is)
    (case l4 => k_is)
    (case c4 => k_is)
    (case k4 => k_is)
    (case a5 => k_is)
    (case l5 => k_is)
    (case c5 => k_is)
    (case k5 => k_is)
    (case a6 => k_is)
    (case l6 => k_is)
    (case c6 => k_is)
    (case k6 => k_is)
    (case a7 => k_is)
    (case l7 => k_is)
    (case c7 => k_is)
    (case k7 => k_is)
    (case a8 => k_is)
    (case l8 => k_is)
    (case c8 => k_is)
    (case k8 => k_is)
    (case z_dict => k_is)
    (case z_int => k_is)
    (case z_len => k_is)
    (case z_list => k_is)
    (case z_min => k_is)
    (case z_range => k_is)
    (case z_sorted => k_is)
    (case z_sum => k_is)
    (case aC_np => k_is)
    (case xC_np => k_exc)
    (case kC_np => k_is)
    (case bC_np => k_is)
    (case tC_np => k_is)
    (case iC_np => k_is)
    (case s_np_np => (first | rfl | k_is))
