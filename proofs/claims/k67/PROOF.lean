import PyProof.Rows.All
import Wide.All
import OpenK.AllK
import Wide.FinOn
import HandS.ForMost
import HandS.ForExc
import HandS.Walk
import HandS.Evl
import HandS.Wide
import HandS.Conv
import HandS.Gcd
import HandS.WideBits
import HandS.TupAny
import HandS.TupMul
import HandS.RaiseMore
import HandS.Deep
import HandS.SortInts
import HandS.Dict
import HandS.Style
import HandS.WordsDict
import PyProof.DictUpdate
import KE.GoesNew
import HandS.Iter
import HandS.Zip
import HandS.Comp
import HandS.WordsExc
import PyProof.ReprRoads
import HandS.Ends
import PySem.Challenge.RW_movedalike_k67_whole_far_places
set_option Elab.async false
set_option autoImplicit false
set_option linter.all false
set_option maxRecDepth 100000
namespace DL
open PySem L2
open Evl (Ex)

/-! ### data at values -/
abbrev D := PyData
def keyD : Key → D
  | .inl i => .int i
  | .inr s => .str s
mutual
inductive Rp (K : PySem.W.Frag) (H : Hp) : V → D → Prop
  | non : Rp K H .non .none
  | bl (b : Bool) : Rp K H (.bl b) (.bool b)
  | int (i : Int) : Rp K H (.int i) (.int i)
  | str (x : Str) : Rp K H (.str x) (.str x)
  | lst {a : Addr} {xs : List V} {ds : List D} : H a = some (.lst xs) → RpL K H xs ds → Rp K H (.ref a) (.list ds)
  | tup {a : Addr} {xs : List V} {ds : List D} : H a = some (.tup xs) → RpL K H xs ds → Rp K H (.ref a) (.tuple ds)
  | dic {a : Addr} {kvs : List (Key × V)} {des : List (D × D)} : H a = some (.dK kvs) → RpK K H (kvs.map fun p => (keyD p.1, p.2)) des → Rp K H (.ref a) (.dict des)
  | dit {a : Addr} {kvs : List (List Key × V)} {des : List (D × D)} : H a = some (.dT kvs) → RpK K H (kvs.map fun p => (.tuple (p.1.map keyD), p.2)) des → Rp K H (.ref a) (.dict ((.none, .none) :: des))
inductive RpL (K : PySem.W.Frag) (H : Hp) : List V → List D → Prop
  | nil : RpL K H [] []
  | cons {v : V} {vs : List V} {d : D} {ds : List D} : Rp K H v d → RpL K H vs ds → RpL K H (v :: vs) (d :: ds)
inductive RpK (K : PySem.W.Frag) (H : Hp) : List (D × V) → List (D × D) → Prop
  | nil : RpK K H [] []
  | cons {k : D} {v : V} {d : D} {l : List (D × V)} {m : List (D × D)} : Rp K H v d → RpK K H l m → RpK K H ((k, v) :: l) ((k, d) :: m)
end
/-- what an own container holds -/
inductive OwnRp (K : PySem.W.Frag) (Hb : Hp) : HO → D → Prop
  | lst {xs : List V} {ds : List D} : RpL K Hb xs ds → OwnRp K Hb (.lst xs) (.list ds)
  | dic {kvs : List (Key × V)} {des : List (D × D)} : RpK K Hb (kvs.map fun p => (keyD p.1, p.2)) des → OwnRp K Hb (.dK kvs) (.dict des)
  | dit {kvs : List (List Key × V)} {des : List (D × D)} : RpK K Hb (kvs.map fun p => (.tuple (p.1.map keyD), p.2)) des → OwnRp K Hb (.dT kvs) (.dict ((.none, .none) :: des))

section
variable {K : PySem.W.Frag} {H H' Hb Hb' : Hp}
mutual
theorem Rp.mono (e : Ex H H') : ∀ {v : V} {d : D}, Rp K H v d → Rp K H' v d
  | _, _, .non => .non
  | _, _, .bl b => .bl b
  | _, _, .int i => .int i
  | _, _, .str x => .str x
  | _, _, .lst h r => .lst (e _ _ h) (RpL.mono e r)
  | _, _, .tup h r => .tup (e _ _ h) (RpL.mono e r)
  | _, _, .dic h r => .dic (e _ _ h) (RpK.mono e r)
  | _, _, .dit h r => .dit (e _ _ h) (RpK.mono e r)
theorem RpL.mono (e : Ex H H') : ∀ {vs : List V} {ds : List D}, RpL K H vs ds → RpL K H' vs ds
  | _, _, .nil => .nil
  | _, _, .cons h r => .cons (Rp.mono e h) (RpL.mono e r)
theorem RpK.mono (e : Ex H H') : ∀ {l : List (D × V)} {m : List (D × D)}, RpK K H l m → RpK K H' l m
  | _, _, .nil => .nil
  | _, _, .cons h r => .cons (Rp.mono e h) (RpK.mono e r)
end
theorem OwnRp.mono (e : Ex H H') {o : HO} {d : D} : OwnRp K H o d → OwnRp K H' o d
  | .lst r => .lst (r.mono e)
  | .dic r => .dic (r.mono e)
  | .dit r => .dit (r.mono e)
theorem RpL.length : ∀ {vs : List V} {ds : List D}, RpL K H vs ds → vs.length = ds.length
  | _, _, .nil => rfl
  | _, _, .cons _ r => by rw [List.length_cons, List.length_cons, RpL.length r]
theorem RpL.get : ∀ {vs : List V} {ds : List D} {i : Nat} {d : D}, RpL K H vs ds → ds[i]? = some d → ∃ v, vs[i]? = some v ∧ Rp K H v d
  | _, _, _, _, .nil, e => by simp at e
  | _, _, 0, _, .cons h _, e => by
    simp at e
    subst e
    exact ⟨_, rfl, h⟩
  | _, _, i + 1, d, .cons _ r, e => by
    obtain ⟨v, h1, h2⟩ := RpL.get (i := i) (d := d) r (by simpa using e)
    exact ⟨v, by simpa using h1, h2⟩
theorem RpL.get' : ∀ {vs : List V} {ds : List D} {i : Nat} {v : V}, RpL K H vs ds → vs[i]? = some v → ∃ d, ds[i]? = some d ∧ Rp K H v d
  | _, _, _, _, .nil, e => by simp at e
  | _, _, 0, _, .cons h _, e => by
    simp at e
    subst e
    exact ⟨_, rfl, h⟩
  | _, _, i + 1, d, .cons _ r, e => by
    obtain ⟨v, h1, h2⟩ := RpL.get' (i := i) r (by simpa using e)
    exact ⟨v, by simpa using h1, h2⟩
theorem RpL.append : ∀ {vs ws : List V} {ds es : List D}, RpL K H vs ds → RpL K H ws es → RpL K H (vs ++ ws) (ds ++ es)
  | _, _, _, _, .nil, q => q
  | _, _, _, _, .cons h r, q => .cons h (RpL.append r q)
theorem RpL.take : ∀ {vs : List V} {ds : List D} (n : Nat), RpL K H vs ds → RpL K H (vs.take n) (ds.take n)
  | _, _, 0, _ => .nil
  | _, _, _ + 1, .nil => .nil
  | _, _, n + 1, .cons h r => .cons h (RpL.take n r)
theorem RpL.drop : ∀ {vs : List V} {ds : List D} (n : Nat), RpL K H vs ds → RpL K H (vs.drop n) (ds.drop n)
  | _, _, 0, r => r
  | _, _, _ + 1, .nil => .nil
  | _, _, n + 1, .cons _ r => RpL.drop n r
theorem RpL.set {v : V} {d : D} (h : Rp K H v d) : ∀ {vs : List V} {ds : List D} (i : Nat), RpL K H vs ds → RpL K H (vs.set i v) (ds.set i d)
  | _, _, _, .nil => .nil
  | _, _, 0, .cons _ r => .cons h r
  | _, _, i + 1, .cons q r => .cons q (RpL.set h i r)
theorem RpL.reverse : ∀ {vs : List V} {ds : List D}, RpL K H vs ds → RpL K H vs.reverse ds.reverse
  | _, _, .nil => .nil
  | _, _, .cons h r => by
    rw [List.reverse_cons, List.reverse_cons]
    exact (RpL.reverse r).append (.cons h .nil)
theorem RpL.eraseIdx : ∀ {vs : List V} {ds : List D} (n : Nat), RpL K H vs ds → RpL K H (vs.eraseIdx n) (ds.eraseIdx n)
  | _, _, _, .nil => .nil
  | _, _, 0, .cons _ r => r
  | _, _, n + 1, .cons h r => .cons h (RpL.eraseIdx n r)
theorem RpL.dropLast : ∀ {vs : List V} {ds : List D}, RpL K H vs ds → RpL K H vs.dropLast ds.dropLast
  | _, _, .nil => .nil
  | _, _, .cons _ .nil => .nil
  | _, _, .cons h (.cons h2 r) => .cons h (RpL.dropLast (.cons h2 r))
theorem RpL.one {v : V} {d : D} (h : Rp K H v d) : RpL K H [v] [d] := .cons h .nil
theorem RpL.ints : ∀ (ns : List Int), RpL K H (ns.map V.int) (ns.map PyData.int)
  | [] => .nil
  | n :: r => .cons (.int n) (RpL.ints r)
theorem RpL.map_int : ∀ {vs : List V} {ns : List Int}, RpL K H vs (ns.map PyData.int) → vs = ns.map V.int
  | _, [], .nil => rfl
  | _, n :: r, .cons (.int _) q => by rw [RpL.map_int q]; rfl
theorem RpL.map_bool : ∀ {vs : List V} {ns : List Bool}, RpL K H vs (ns.map PyData.bool) → vs = ns.map V.bl
  | _, [], .nil => rfl
  | _, n :: r, .cons (.bl _) q => by rw [RpL.map_bool q]; rfl
theorem RpL.map_str : ∀ {vs : List V} {ns : List Str}, RpL K H vs (ns.map PyData.str) → vs = ns.map V.str
  | _, [], .nil => rfl
  | _, n :: r, .cons (.str _) q => by rw [RpL.map_str q]; rfl
theorem Rp.scal_int {v : V} {i : Int} (h : Rp K H v (.int i)) : v = .int i := by cases h; rfl
theorem Rp.scal_bool {v : V} {b : Bool} (h : Rp K H v (.bool b)) : v = .bl b := by cases h; rfl
theorem Rp.scal_str {v : V} {x : Str} (h : Rp K H v (.str x)) : v = .str x := by cases h; rfl
theorem Rp.scal_none {v : V} (h : Rp K H v .none) : v = .non := by cases h; rfl
end

/-! ### the base under the heap -/
def isD : HO → Bool
  | .dK _ => true
  | .dT _ => true
  | _ => false
def Sub (Hb H : Hp) : Prop := ∀ a o, Hb a = some o → H a = some o ∨ (isD o = true ∧ ∃ ob, H a = some (.frz ob o))
theorem Sub.rd {Hb H : Hp} (s : Sub Hb H) {a : Addr} {o : HO} (h : Hb a = some o) : Rd H a o := by
  rcases s a o h with h | ⟨_, ob, h⟩
  · exact .inl h
  · exact .inr ⟨ob, h⟩
theorem Sub.lst {Hb H : Hp} (s : Sub Hb H) {a : Addr} {xs : List V} (h : Hb a = some (.lst xs)) : H a = some (.lst xs) := by
  rcases s a _ h with h | ⟨h, _⟩
  · exact h
  · cases h
theorem Sub.tupl {Hb H : Hp} (s : Sub Hb H) {a : Addr} {xs : List V} (h : Hb a = some (.tup xs)) : H a = some (.tup xs) := by
  rcases s a _ h with h | ⟨h, _⟩
  · exact h
  · cases h
theorem Sub.rd2 {Hb H : Hp} (s : Sub Hb H) {a : Addr} {xs : List V} (h : Rd Hb a (.tup xs)) : Rd H a (.tup xs) := by
  rcases h with h | ⟨ob, h⟩
  · exact s.rd h
  · rcases s a _ h with h | ⟨h, _⟩
    · exact .inr ⟨ob, h⟩
    · cases h
theorem Sub.tup {K : PySem.W.Frag} {Hb H : Hp} (s : Sub Hb H) {a : Addr} {xs : List V} (h : SqT K Hb a xs) : SqT K H a xs := by
  rcases h with h | h
  · exact .inl (s.rd2 h)
  · exact .inr h
theorem Sub.ne {Hb H : Hp} (s : Sub Hb H) {a : Addr} (h : Hb a ≠ none) : H a ≠ none := by
  cases q : Hb a with
  | none => exact absurd q h
  | some o =>
    rcases s a o q with h | ⟨_, ob, h⟩ <;> (rw [h]; exact fun z => nomatch z)
theorem Sub.back {Hb Hb' H : Hp} (e : Ex Hb Hb') (s : Sub Hb' H) : Sub Hb H := fun a o h => s a o (e a o h)

section
variable {U : Type} (hp : U → Hp)
structure Wf (u : U) (Hb H : Hp) : Prop where
  sub : Sub Hb H
  wld : Ex (hp u) H
  sep : ∀ a, hp u a ≠ none → Hb a = none
structure Nxt (u u' : U) (Hb H Hb' H' : Hp) : Prop where
  ext : Ex Hb Hb'
  sub : Sub Hb' H'
  new : ∀ a, H a ≠ none → Hb a = none → Hb' a = none
  keep : ∀ a o, H a = some o → hp u a = none → H' a = some o
  there : ∀ a, H a ≠ none → H' a ≠ none
  wld : Ex (hp u') H'
  dom : ∀ a, H a ≠ none → hp u a = none → hp u' a = none
  sep : ∀ a, hp u' a ≠ none → Hb' a = none
end
section
variable {U : Type} {hp : U → Hp} {u u1 u2 : U} {Hb H Hb1 H1 Hb2 H2 : Hp}
theorem Nxt.refl (w : Wf hp u Hb H) : Nxt hp u u Hb H Hb H :=
  ⟨fun _ _ h => h, w.sub, fun _ _ h => h, fun _ _ h _ => h, fun _ h => h, w.wld, fun _ _ h => h, w.sep⟩
theorem Nxt.wf (n : Nxt hp u u1 Hb H Hb1 H1) : Wf hp u1 Hb1 H1 := ⟨n.sub, n.wld, n.sep⟩
theorem Nxt.trans (n : Nxt hp u u1 Hb H Hb1 H1) (m : Nxt hp u1 u2 Hb1 H1 Hb2 H2) : Nxt hp u u2 Hb H Hb2 H2 :=
  ⟨n.ext.trans m.ext, m.sub, fun a h b => m.new a (n.there a h) (n.new a h b), fun a o h b => m.keep a o (n.keep a o h b) (n.dom a (by rw [h]; exact fun z => nomatch z) b), fun a h => m.there a (n.there a h),
   m.wld, fun a h b => m.dom a (n.there a h) (n.dom a h b), m.sep⟩
/-- a new thing p, put to the base -/
theorem Nxt.alloc (w : Wf hp u Hb H) {p : Addr} {o : HO} (hn : H p = none) : Nxt hp u u Hb H (upd Hb p o) (upd H p o) := by
  have hb : Hb p = none := by
    cases q : Hb p with
    | none => rfl
    | some x => exact absurd hn (w.sub.ne (by rw [q]; exact fun z => nomatch z))
  have hw : hp u p = none := by
    cases q : hp u p with
    | none => rfl
    | some x => rw [w.wld p x q] at hn; cases hn
  refine ⟨Ex.new hb, fun a x h => ?_, fun a h b => ?_, fun a x h _ => ?_, fun a h => ?_, fun a x h => ?_, fun _ _ h => h, fun a h => ?_⟩
  · by_cases e : a = p
    · subst e
      rw [upd_same] at h
      cases h
      exact .inl upd_same
    · rw [upd_ne e] at h ⊢
      exact w.sub a x h
  · by_cases e : a = p
    · subst e; exact absurd hn h
    · rw [upd_ne e]; exact b
  · rw [upd_ne (ne_of_none h hn)]; exact h
  · by_cases e : a = p
    · subst e; exact absurd hn h
    · rw [upd_ne e]; exact h
  · have := w.wld a x h
    rw [upd_ne (ne_of_none this hn)]; exact this
  · by_cases e : a = p
    · subst e; exact absurd hw h
    · rw [upd_ne e]; exact w.sep a h
/-- a new thing p, not put to the base -/
theorem Nxt.allocO (w : Wf hp u Hb H) {p : Addr} {o : HO} (hn : H p = none) : Nxt hp u u Hb H Hb (upd H p o) := by
  have a := Nxt.alloc (o := o) w hn
  have hb : Hb p = none := by
    cases q : Hb p with
    | none => rfl
    | some x => exact absurd hn (w.sub.ne (by rw [q]; exact fun z => nomatch z))
  exact ⟨fun _ _ h => h, Sub.back (Ex.new hb) a.sub, fun _ _ h => h, a.keep, a.there, a.wld, a.dom, w.sep⟩
theorem Wf.fresh (w : Wf hp u Hb H) {p : Addr} (hn : H p = none) : Hb p = none ∧ hp u p = none := by
  constructor
  · cases q : Hb p with
    | none => rfl
    | some x => exact absurd hn (w.sub.ne (by rw [q]; exact fun z => nomatch z))
  · cases q : hp u p with
    | none => rfl
    | some x => rw [w.wld p x q] at hn; cases hn
end
end DL

namespace DL
open PySem L2
open Evl (Ex)

structure Exn where
  c : Nat
  args : List D
/-- a slot: nothing, data in the base, a container of one's own, the world's token -/
inductive Slot where
  | non
  | val (d : D)
  | own (d : D)
  | tok
abbrev Env := List Slot
inductive Rs (U : Type) (α : Type) where
  | ok (a : α) (u : U)
  | ex (e : Exn) (u : U)
  | bad
def Rs.bind {U α β : Type} : Rs U α → (α → U → Rs U β) → Rs U β
  | .ok a u, f => f a u
  | .ex e u, _ => .ex e u
  | .bad, _ => .bad
def liftO {U α : Type} (o : Option α) (u : U) : Rs U α := match o with
  | some a => .ok a u
  | none => .bad
abbrev EF (U : Type) (α : Type) := Env → U → Rs U α

structure Ctx (U : Type) where
  K : PySem.W.Frag
  hp : U → Hp
  tv : V
  xr : Exn → Value → Option Addr → Hp → Hp → Prop
  W : WX

section
variable {U : Type} (C : Ctx U)
/-- a container of one's own at p -/
structure OwnAt (u : U) (Hb H : Hp) (p : Addr) (d : D) : Prop where
  nb : Hb p = none
  nw : C.hp u p = none
  at_ : ∃ o, H p = some o ∧ OwnRp C.K Hb o d
def SlotR (u : U) (Hb H : Hp) : Slot → Option V → Prop
  | .non, _ => True
  | .val d, s => ∃ v, s = some v ∧ Rp C.K Hb v d
  | .own d, s => ∃ p, s = some (.ref p) ∧ OwnAt C u Hb H p d
  | .tok, s => s = some C.tv
structure Rel (env : Env) (u : U) (σ : St) (Hb H : Hp) : Prop where
  wf : Wf C.hp u Hb H
  len : σ.length = env.length
  slot : ∀ (i : Nat) s, env[i]? = some s → SlotR C u Hb H s (σ[i]?.join)
  dist : ∀ (i j : Nat) d d' p, env[i]? = some (.own d) → env[j]? = some (.own d') → σ[i]? = some (some (.ref p)) → σ[j]? = some (some (.ref p)) → i = j
def Post {α β : Type} (Hr : Hp) (u : U) (Hb H : Hp) (σ : St) (r : Rs U α) (Rep : Hp → U → Hp → Hp → β → α → Prop) (Q : β → Hp → Prop) : Prop :=
  match r with
  | .ok a u' => ∀ v Hb' H', Nxt C.hp u u' Hb H Hb' H' → Rep Hr u' Hb' H' v a → Q v H'
  | .ex e u' => ∀ cls dx Hb' H', Nxt C.hp u u' Hb H Hb' H' → C.xr e cls dx Hb' H' → C.W cls dx σ H'
  | .bad => False
def Sim {α β : Type} (Rep : Hp → U → Hp → Hp → β → α → Prop) (t : St → Hp → (β → Hp → Prop) → Prop) (f : EF U α) : Prop :=
  ∀ env u σ Hb H Q, Rel C env u σ Hb H → Post C H u Hb H σ (f env u) Rep Q → t σ H Q
def RE : Hp → U → Hp → Hp → V → D → Prop := fun _ _ Hb _ v d => Rp C.K Hb v d
/-- to be looked into: data in the base, or a container of one's own -/
def RP : Hp → U → Hp → Hp → V → D → Prop := fun _ u Hb H v d => Rp C.K Hb v d ∨ ∃ p, v = .ref p ∧ OwnAt C u Hb H p d
def RT : Hp → U → Hp → Hp → Bool → Bool → Prop := fun _ _ _ _ b c => b = c
/-- a new container -/
def RN : Hp → U → Hp → Hp → V → D → Prop := fun H0 u Hb H v d => ∃ p, v = .ref p ∧ H0 p = none ∧ OwnAt C u Hb H p d
inductive Arg where
  | d (x : D)
  | tok
def ArgR (Hb : Hp) (v : V) : Arg → Prop
  | .d x => Rp C.K Hb v x
  | .tok => v = C.tv
inductive ArgsR (Hb : Hp) : List V → List Arg → Prop
  | nil : ArgsR Hb [] []
  | cons {v : V} {vs : List V} {a : Arg} {as : List Arg} : ArgR C Hb v a → ArgsR Hb vs as → ArgsR Hb (v :: vs) (a :: as)
def RA : Hp → U → Hp → Hp → List V → List Arg → Prop := fun _ _ Hb _ vs as => ArgsR C Hb vs as
abbrev SimE (te : TE) (fe : EF U D) : Prop := Sim C (RE C) te fe
abbrev SimP (te : TE) (fe : EF U D) : Prop := Sim C (RP C) te fe
abbrev SimN (te : TE) (fe : EF U D) : Prop := Sim C (RN C) te fe
abbrev SimT (tt : TT) (ft : EF U Bool) : Prop := Sim C RT tt ft
abbrev SimA (ta : TA) (fa : EF U (List Arg)) : Prop := Sim C (RA C) ta fa
end

section
variable {U : Type} {C : Ctx U} {env : Env} {u u1 : U} {σ : St} {Hb H Hb1 H1 : Hp}
theorem OwnAt.nxt {p : Addr} {d : D} (o : OwnAt C u Hb H p d) (n : Nxt C.hp u u1 Hb H Hb1 H1) : OwnAt C u1 Hb1 H1 p d := by
  obtain ⟨ob, ho, hr⟩ := o.at_
  have hn : H p ≠ none := by rw [ho]; exact fun z => nomatch z
  exact ⟨n.new p hn o.nb, n.dom p hn o.nw, ob, n.keep p ob ho o.nw, hr.mono n.ext⟩
theorem SlotR.nxt {s : Slot} {x : Option V} (h : SlotR C u Hb H s x) (n : Nxt C.hp u u1 Hb H Hb1 H1) : SlotR C u1 Hb1 H1 s x := by
  cases s with
  | non => trivial
  | val d =>
    obtain ⟨v, e, r⟩ := h
    exact ⟨v, e, r.mono n.ext⟩
  | own d =>
    obtain ⟨p, e, o⟩ := h
    exact ⟨p, e, o.nxt n⟩
  | tok => exact h
theorem Rel.nxt (r : Rel C env u σ Hb H) (n : Nxt C.hp u u1 Hb H Hb1 H1) : Rel C env u1 σ Hb1 H1 :=
  ⟨n.wf, r.len, fun i s h => (r.slot i s h).nxt n, r.dist⟩
theorem RP.of {H0 : Hp} {v : V} {d : D} (h : Rp C.K Hb v d) : RP C H0 u Hb H v d := .inl h
theorem RP.nxt {H0 H0' : Hp} {v : V} {d : D} (h : RP C H0 u Hb H v d) (n : Nxt C.hp u u1 Hb H Hb1 H1) : RP C H0' u1 Hb1 H1 v d := by
  rcases h with h | ⟨p, e, o⟩
  · exact .inl (h.mono n.ext)
  · exact .inr ⟨p, e, o.nxt n⟩
theorem ArgsR.mono {Hb Hb' : Hp} (e : Ex Hb Hb') : ∀ {vs : List V} {as : List Arg}, ArgsR C Hb vs as → ArgsR C Hb' vs as
  | _, _, .nil => .nil
  | _, _, .cons (a := .d x) h r => .cons (a := .d x) (Rp.mono e h) (ArgsR.mono e r)
  | _, _, .cons (a := .tok) h r => .cons (a := .tok) h (ArgsR.mono e r)
theorem Post.imp {α β : Type} {Hr : Hp} {r : Rs U α} {Rep Rep' : Hp → U → Hp → Hp → β → α → Prop} {Q : β → Hp → Prop} (h : Post C Hr u Hb H σ r Rep' Q) (k : ∀ u' Hb' H' v a, Nxt C.hp u u' Hb H Hb' H' → Rep Hr u' Hb' H' v a → Rep' Hr u' Hb' H' v a) : Post C Hr u Hb H σ r Rep Q := by
  cases r with
  | ok a u' => exact fun v Hb' H' n q => h v Hb' H' n (k _ _ _ _ _ n q)
  | ex e u' => exact h
  | bad => exact h
theorem Sim.imp {α β : Type} {t : St → Hp → (β → Hp → Prop) → Prop} {f : EF U α} {Rep Rep' : Hp → U → Hp → Hp → β → α → Prop} (s : Sim C Rep t f) (k : ∀ H0 u' Hb' H' v a, Rep H0 u' Hb' H' v a → Rep' H0 u' Hb' H' v a) : Sim C Rep' t f :=
  fun env u σ Hb H Q r p => s env u σ Hb H Q r (p.imp fun _ _ _ _ _ _ q => k _ _ _ _ _ _ q)
theorem SimE.p {te : TE} {fe : EF U D} (s : SimE C te fe) : SimP C te fe := Sim.imp s fun _ _ _ _ _ _ q => .inl q
/-- a step, then the rest -/
theorem Post.bind {α β γ δ : Type} {Hr : Hp} {r : Rs U α} {f : α → U → Rs U γ} {RepA : Hp → U → Hp → Hp → β → α → Prop} {RepC : Hp → U → Hp → Hp → δ → γ → Prop} {Q : δ → Hp → Prop} {Q2 : β → Hp → Prop}
    (h : Post C Hr u Hb H σ (r.bind f) RepC Q) (k : ∀ a u1 v Hb1 H1, Nxt C.hp u u1 Hb H Hb1 H1 → RepA H u1 Hb1 H1 v a → Post C Hr u1 Hb1 H1 σ (f a u1) RepC Q → Q2 v H1) : Post C H u Hb H σ r RepA Q2 := by
  cases r with
  | bad => exact h
  | ex e u' => exact h
  | ok a u1 =>
    refine fun v Hb1 H1 n q => k a u1 v Hb1 H1 n q ?_
    have h : Post C Hr u Hb H σ (f a u1) RepC Q := h
    cases hf : f a u1 with
    | bad => rw [hf] at h; exact h
    | ex e u' =>
      rw [hf] at h
      exact fun cls dx Hb2 H2 m x => h cls dx Hb2 H2 (n.trans m) x
    | ok c u2 =>
      rw [hf] at h
      exact fun w Hb2 H2 m x => h w Hb2 H2 (n.trans m) x
theorem Post.okI {α β : Type} {Hr : Hp} {Rep : Hp → U → Hp → Hp → β → α → Prop} {Q : β → Hp → Prop} {a : α} {v : β} (h : Post C Hr u Hb H σ (.ok a u) Rep Q) (w : Wf C.hp u Hb H) (r : Rep Hr u Hb H v a) : Q v H := h v Hb H (Nxt.refl w) r
theorem Post.liftO {α β : Type} {Hr : Hp} {Rep : Hp → U → Hp → Hp → β → α → Prop} {Q : β → Hp → Prop} {o : Option α} (h : Post C Hr u Hb H σ (liftO o u) Rep Q) : ∃ a, o = some a ∧ Post C Hr u Hb H σ (.ok a u) Rep Q := by
  cases o with
  | none => exact False.elim h
  | some a => exact ⟨a, rfl, h⟩
theorem Nxt.back {hp : U → Hp} {u u1 : U} {Hb H Hb1 H1 : Hp} (n : Nxt hp u u1 Hb H Hb1 H1) {p : Addr} (h : H1 p = none) : H p = none := by
  cases q : H p with
  | none => rfl
  | some x => exact absurd h (n.there p (by rw [q]; exact fun z => nomatch z))
end
/-- a new container, put to the base -/
theorem SimN.e {U : Type} {C : Ctx U} {te : TE} {fe : EF U D} (s : SimN C te fe) : SimE C te fe := fun env u σ Hb H Q r p => s env u σ Hb H Q r (by
  cases hf : fe env u with
  | bad => rw [hf] at p; exact p
  | ex e u' => rw [hf] at p; exact p
  | ok d u' =>
    rw [hf] at p
    intro v Hb' H' n q
    obtain ⟨a, rfl, h0, nb, nw, o, ho, hr⟩ := q
    have hext : Ex Hb' (upd Hb' a o) := Ex.new nb
    refine p (.ref a) (upd Hb' a o) H' ⟨n.ext.trans hext, fun b x h => ?_, fun b h1 h2 => ?_, n.keep, n.there, n.wld, n.dom, fun b h => ?_⟩ ?_
    · by_cases e : b = a
      · subst e
        rw [upd_same] at h
        cases h
        exact .inl ho
      · rw [upd_ne e] at h
        exact n.sub b x h
    · by_cases e : b = a
      · subst e; exact absurd h0 h1
      · rw [upd_ne e]; exact n.new b h1 h2
    · by_cases e : b = a
      · subst e; exact absurd nw h
      · rw [upd_ne e]; exact n.sep b h
    · cases hr with
      | lst r => exact .lst upd_same (r.mono hext)
      | dic r => exact .dic upd_same (r.mono hext)
      | dit r => exact .dit upd_same (r.mono hext))
end DL

namespace DL
open PySem L2
open Evl (Ex)

/-! ### a piece of syntax, its reading, its meaning -/
section
variable {U : Type} (X : Cx) (C : Ctx U)
structure XE (e : Expr) (te : TE) (fe : EF U D) : Prop where
  pe : PE X e te
  s : SimE C te fe
structure XP (e : Expr) (te : TE) (fe : EF U D) : Prop where
  pe : PE X e te
  s : SimP C te fe
structure XN (e : Expr) (te : TE) (fe : EF U D) : Prop where
  pe : PE X e te
  s : SimN C te fe
structure XT (e : Expr) (tt : TT) (ft : EF U Bool) : Prop where
  pe : PT X e tt
  s : SimT C tt ft
structure XW (e : Expr) (tt : TT) (ft : EF U Bool) : Prop where
  pe : PW X e tt
  s : SimT C tt ft
structure XA (es : List Expr) (ta : TA) (fa : EF U (List Arg)) : Prop where
  pe : PA X es ta
  s : SimA C ta fa
end
section
variable {U : Type} {X : Cx} {C : Ctx U} {ex : Expr} {te : TE} {fe : EF U D} {tt : TT} {ft : EF U Bool}
theorem XE.p (h : XE X C ex te fe) : XP X C ex te fe := ⟨h.pe, h.s.p⟩
theorem XN.e (h : XN X C ex te fe) : XE X C ex te fe := ⟨h.pe, h.s.e⟩
theorem XN.p (h : XN X C ex te fe) : XP X C ex te fe := h.e.p
theorem XW.t (h : XW X C ex tt ft) : XT X C ex tt ft := ⟨h.pe.pt, h.s⟩
end
section
variable {U : Type} {X : Cx} {C : Ctx U} {e a b c : Expr} {te ta tb tc : TE} {fe fa fb fc : EF U D} {tt tu : TT} {ft fu : EF U Bool} {es : List Expr} {tas : TA} {fas : EF U (List Arg)} {pos p : Pos}

/-! ### names, constants -/
def fVar {U : Type} (i : Nat) : EF U D := fun env u => match env[i]? with
  | some (.val d) => .ok d u
  | _ => .bad
def fVarP {U : Type} (i : Nat) : EF U D := fun env u => match env[i]? with
  | some (.val d) => .ok d u
  | some (.own d) => .ok d u
  | _ => .bad
def fC {U : Type} (d : D) : EF U D := fun _ u => .ok d u
theorem sim_var {i : Nat} : SimE C (tVar i) (fVar i) := fun env u σ Hb H Q r h => by
  unfold fVar at h
  split at h
  · rename_i d hd
    obtain ⟨v, e, q⟩ := r.slot i _ hd
    refine ⟨v, ?_, h v Hb H (Nxt.refl r.wf) q⟩
    cases hs : σ[i]? with
    | none => rw [hs] at e; cases e
    | some o => rw [hs] at e; exact congrArg some e
  · exact h.elim
theorem sim_varP {i : Nat} : SimP C (tVar i) (fVarP i) := fun env u σ Hb H Q r h => by
  unfold fVarP at h
  have nj : ∀ v, σ[i]?.join = some v → σ[i]? = some (some v) := fun v e => by
    cases hs : σ[i]? with
    | none => rw [hs] at e; cases e
    | some o => rw [hs] at e; exact congrArg some e
  split at h
  · rename_i d hd
    obtain ⟨v, e, q⟩ := r.slot i _ hd
    exact ⟨v, nj v e, h v Hb H (Nxt.refl r.wf) (.inl q)⟩
  · rename_i d hd
    obtain ⟨p, e, q⟩ := r.slot i _ hd
    exact ⟨.ref p, nj _ e, h (.ref p) Hb H (Nxt.refl r.wf) (.inr ⟨p, rfl, q⟩)⟩
  · exact h.elim
theorem sim_c {v : V} {d : D} (h : ∀ Hb, Rp C.K Hb v d) : SimE C (tC v) (fC d) := fun env u σ Hb H Q r q => q.okI r.wf (h Hb)
theorem x_var (i : Nat) {x : Str} (hN : X.N[i]? = some x := by rfl) (hv : Vis X.env.scope x := by first | exact Or.inl rfl | exact Or.inr (Or.inl rfl) | exact Or.inr (Or.inr rfl)) (hd : (x == ("__debug__" : Str)) = false := by decide)
    (hcd : (x == ("__classdict__" : Str)) = false := by decide) : XE X C (.Name x pos) (tVar i) (fVar i) := ⟨pe_var hN hv hd hcd, sim_var⟩
theorem xp_var (i : Nat) {x : Str} (hN : X.N[i]? = some x := by rfl) (hv : Vis X.env.scope x := by first | exact Or.inl rfl | exact Or.inr (Or.inl rfl) | exact Or.inr (Or.inr rfl)) (hd : (x == ("__debug__" : Str)) = false := by decide)
    (hcd : (x == ("__classdict__" : Str)) = false := by decide) : XP X C (.Name x pos) (tVar i) (fVarP i) := ⟨pe_var hN hv hd hcd, sim_varP⟩
theorem x_int {i : Int} {j : Nat} : XE X C (.Constant (.int i) j pos) (tC (.int i)) (fC (.int i)) := ⟨pe_int, sim_c fun _ => .int i⟩
theorem x_bl {b : Bool} {j : Nat} : XE X C (.Constant (.bool b) j pos) (tC (.bl b)) (fC (.bool b)) := ⟨pe_bl, sim_c fun _ => .bl b⟩
theorem x_non {j : Nat} : XE X C (.Constant .none j pos) (tC .non) (fC .none) := ⟨pe_non, sim_c fun _ => .non⟩
theorem x_str {x : Str} {j : Nat} : XE X C (.Constant (.str x) j pos) (tC (.str x)) (fC (.str x)) := ⟨pe_str, sim_c fun _ => .str x⟩
/-- a module's constant -/
theorem x_glob {x : Str} {v : V} {w : Value} (d : D) (hg : Gl X x) (hm : X.mg x = some w) (r : RelV v w) (h : ∀ Hb, Rp C.K Hb v d) (hd : (x == ("__debug__" : Str)) = false := by decide) : XE X C (.Name x pos) (tC v) (fC d) := ⟨pe_glob hg hm r hd, sim_c h⟩

/-! ### two operands -/
def fBin {U : Type} (op : D → D → Option D) (fa fb : EF U D) : EF U D := fun env u => (fa env u).bind fun x u1 => (fb env u1).bind fun y u2 => liftO (op x y) u2
def fUn {U : Type} (op : D → Option D) (fa : EF U D) : EF U D := fun env u => (fa env u).bind fun x u1 => liftO (op x) u1
/-- what a value-level operation does on data -/
def OpS (C : Ctx U) (r : R2) (op : D → D → Option D) : Prop := ∀ (x y : V) (dx dy d : D) (H0 : Hp) (u : U) (Hb H : Hp) (Q : VK), op dx dy = some d → Wf C.hp u Hb H → RP C H0 u Hb H x dx → RP C H0 u Hb H y dy →
  (∀ v Hb' H', Nxt C.hp u u Hb H Hb' H' → Rp C.K Hb' v d → Q v H') → r x y H Q
def UnS (C : Ctx U) (r : V → Hp → VK → Prop) (op : D → Option D) : Prop := ∀ (x : V) (dx d : D) (H0 : Hp) (u : U) (Hb H : Hp) (Q : VK), op dx = some d → Wf C.hp u Hb H → RP C H0 u Hb H x dx →
  (∀ v Hb' H', Nxt C.hp u u Hb H Hb' H' → Rp C.K Hb' v d → Q v H') → r x H Q
theorem sim_bin {r : R2} {op : D → D → Option D} (ho : OpS C r op) (ha : SimP C ta fa) (hb : SimP C tb fb) : SimE C (tOp r ta tb) (fBin op fa fb) := fun env u σ Hb H Q rel h =>
  ha env u σ Hb H _ rel (Post.bind h fun dx u1 x Hb1 H1 n1 rx h1 =>
    hb env u1 σ Hb1 H1 _ (rel.nxt n1) (Post.bind h1 fun dy u2 y Hb2 H2 n2 ry h2 => by
      obtain ⟨d, e, h3⟩ := h2.liftO
      exact ho x y dx dy d H1 u2 Hb2 H2 Q e n2.wf (rx.nxt n2) ry h3))
theorem sim_un {r : V → Hp → VK → Prop} {op : D → Option D} (ho : UnS C r op) (ha : SimP C ta fa) : SimE C (tUn r ta) (fUn op fa) := fun env u σ Hb H Q rel h =>
  ha env u σ Hb H _ rel (Post.bind h fun dx u1 x Hb1 H1 n1 rx h1 => by
      obtain ⟨d, e, h3⟩ := h1.liftO
      exact ho x dx d H u1 Hb1 H1 Q e n1.wf rx h3)
theorem x_bin {op : Operator} {r : R2} {f : D → D → Option D} (hr : OpR X (binaryOp op) r) (hs : OpS C r f) (ha : XP X C a ta fa) (hb : XP X C b tb fb) : XE X C (.BinOp a op b pos) (tOp r ta tb) (fBin f fa fb) := ⟨pe_op hr ha.pe hb.pe, sim_bin hs ha.s hb.s⟩
theorem x_un {op : UnaryOp} {r : V → Hp → VK → Prop} {f : D → Option D} (hr : UnR X (unaryOp op) r) (hs : UnS C r f) (ha : XP X C a ta fa) : XE X C (.UnaryOp op a pos) (tUn r ta) (fUn f fa) := ⟨pe_un hr ha.pe, sim_un hs ha.s⟩
theorem x_cmp {op : CmpOp} {r : R2} {f : D → D → Option D} (hr : OpR X (compareOp op) r) (hs : OpS C r f) (ha : XP X C a ta fa) (hb : XP X C b tb fb) (hm : behindInMarks op b = false := by first | exact nobehind _ (by decide) (by decide) | rfl) : XE X C (.Compare a [op] [b] pos) (tOp r ta tb) (fBin f fa fb) := ⟨pe_cmpR hr ha.pe hb.pe hm, sim_bin hs ha.s hb.s⟩

/-! ### tests -/
/-- a value that is True or False -/
def fB {U : Type} (fe : EF U D) : EF U Bool := fun env u => (fe env u).bind fun x u1 => match x with
  | .bool b => .ok b u1
  | _ => .bad
theorem sim_test (h : SimE C te fe) : SimT C (tTest te) (fB fe) := fun env u σ Hb H Q rel q =>
  h env u σ Hb H _ rel (Post.bind q fun d u1 v Hb1 H1 n r h1 => by
    cases d with
    | bool b => exact ⟨b, Rp.scal_bool r, h1.okI n.wf rfl⟩
    | none => exact h1.elim
    | int _ => exact h1.elim
    | str _ => exact h1.elim
    | list _ => exact h1.elim
    | tuple _ => exact h1.elim
    | dict _ => exact h1.elim)
theorem sim_B (h : SimE C te fe) : SimT C (tB te) (fB fe) := sim_test h
theorem xt_cmp {op : CmpOp} {r : R2} {f : D → D → Option D} (hr : OpR X (compareOp op) r) (hs : OpS C r f) (ha : XP X C a ta fa) (hb : XP X C b tb fb) (hm : behindInMarks op b = false := by first | exact nobehind _ (by decide) (by decide) | rfl) : XT X C (.Compare a [op] [b] pos) (tTest (tOp r ta tb)) (fB (fBin f fa fb)) := ⟨pt_cmpR hr ha.pe hb.pe hm, sim_test (sim_bin hs ha.s hb.s)⟩
theorem xt_val (h : XE X C e te fe) (he : ∀ whole, isTrue e X.env whole = (do let v ← whole; standAt e.pos; holding [v] (truthy v)) := by intro _; rfl) : XT X C e (tB te) (fB fe) := ⟨pt_val h.pe he, sim_B h.s⟩
def fNot {U : Type} (ft : EF U Bool) : EF U Bool := fun env u => (ft env u).bind fun b u1 => .ok (!b) u1
def fAnd {U : Type} (ft fu : EF U Bool) : EF U Bool := fun env u => (ft env u).bind fun b u1 => if b = true then fu env u1 else .ok false u1
def fOr {U : Type} (ft fu : EF U Bool) : EF U Bool := fun env u => (ft env u).bind fun b u1 => if b = true then .ok true u1 else fu env u1
theorem sim_not (h : SimT C tt ft) : SimT C (tNot tt) (fNot ft) := fun env u σ Hb H Q rel q =>
  h env u σ Hb H _ rel (Post.bind q fun b u1 v Hb1 H1 n r h1 => by
    have r : v = b := r
    subst r
    exact h1.okI n.wf rfl)
theorem sim_and (h : SimT C tt ft) (g : SimT C tu fu) : SimT C (tAnd tt tu) (fAnd ft fu) := fun env u σ Hb H Q rel q =>
  h env u σ Hb H _ rel (Post.bind q fun b u1 v Hb1 H1 n r h1 => by
    have r : v = b := r
    subst r
    cases v with
    | true => exact g env u1 σ Hb1 H1 Q (rel.nxt n) h1
    | false => exact h1.okI n.wf rfl)
theorem sim_or (h : SimT C tt ft) (g : SimT C tu fu) : SimT C (tOr tt tu) (fOr ft fu) := fun env u σ Hb H Q rel q =>
  h env u σ Hb H _ rel (Post.bind q fun b u1 v Hb1 H1 n r h1 => by
    have r : v = b := r
    subst r
    cases v with
    | false => exact g env u1 σ Hb1 H1 Q (rel.nxt n) h1
    | true => exact h1.okI n.wf rfl)
theorem xw_and1 (ha : XT X C a tt ft) : XW X C (.BoolOp .And [a] pos) tt ft := ⟨pw_and1 ha.pe, ha.s⟩
theorem xw_or1 (ha : XT X C a tt ft) : XW X C (.BoolOp .Or [a] pos) tt ft := ⟨pw_or1 ha.pe, ha.s⟩
theorem xw_and {rest : List Expr} (ha : XT X C a tt ft) (hb : XW X C (.BoolOp .And (b :: rest) pos) tu fu) : XW X C (.BoolOp .And (a :: b :: rest) pos) (tAnd tt tu) (fAnd ft fu) := ⟨pw_and ha.pe hb.pe, sim_and ha.s hb.s⟩
theorem xw_or {rest : List Expr} (ha : XT X C a tt ft) (hb : XW X C (.BoolOp .Or (b :: rest) pos) tu fu) : XW X C (.BoolOp .Or (a :: b :: rest) pos) (tOr tt tu) (fOr ft fu) := ⟨pw_or ha.pe hb.pe, sim_or ha.s hb.s⟩
theorem xt_not (ha : XT X C a tt ft) : XT X C (.UnaryOp .Not a pos) (tNot tt) (fNot ft) := ⟨pt_not ha.pe, sim_not ha.s⟩
/-! .. as values -/
def fToB {U : Type} (ft : EF U Bool) : EF U D := fun env u => (ft env u).bind fun b u1 => .ok (.bool b) u1
def fNotV {U : Type} (fa : EF U D) : EF U D := fToB (fNot (fB fa))
def fAndV {U : Type} (fa fb : EF U D) : EF U D := fun env u => (fB fa env u).bind fun b u1 => if b = true then fb env u1 else .ok (.bool false) u1
def fOrV {U : Type} (fa fb : EF U D) : EF U D := fun env u => (fB fa env u).bind fun b u1 => if b = true then .ok (.bool true) u1 else fb env u1
theorem Rs.bind_assoc {U α β γ : Type} (r : Rs U α) (f : α → U → Rs U β) (g : β → U → Rs U γ) : (r.bind f).bind g = r.bind fun a u => (f a u).bind g := by cases r <;> rfl
theorem sim_notV (h : SimE C ta fa) : SimE C (tNotV ta) (fNotV fa) := fun env u σ Hb H Q rel q =>
  h env u σ Hb H _ rel (Post.bind (f := fun (x : D) u1 => match x with | .bool b => (.ok (PyData.bool (!b)) u1 : Rs U D) | _ => .bad) (by
      have e : fNotV fa env u = (fa env u).bind (fun (x : D) u1 => match x with | .bool b => (.ok (PyData.bool (!b)) u1 : Rs U D) | _ => .bad) := by
        unfold fNotV fToB fNot fB
        rw [Rs.bind_assoc, Rs.bind_assoc]
        congr 1
        funext x u1
        cases x <;> rfl
      rw [← e]
      exact q) fun d u1 v Hb1 H1 n r h1 => by
    cases d with
    | bool b => exact ⟨b, Rp.scal_bool r, h1.okI n.wf (.bl _)⟩
    | none => exact h1.elim
    | int _ => exact h1.elim
    | str _ => exact h1.elim
    | list _ => exact h1.elim
    | tuple _ => exact h1.elim
    | dict _ => exact h1.elim)
theorem sim_andV (h : SimE C ta fa) (g : SimE C tb fb) : SimE C (tAndV ta tb) (fAndV fa fb) := fun env u σ Hb H Q rel q =>
  h env u σ Hb H _ rel (Post.bind (f := fun (x : D) u1 => match x with | .bool b => if b = true then fb env u1 else (.ok (PyData.bool false) u1 : Rs U D) | _ => .bad) (by
      have e : fAndV fa fb env u = (fa env u).bind (fun (x : D) u1 => match x with | .bool b => if b = true then fb env u1 else (.ok (PyData.bool false) u1 : Rs U D) | _ => .bad) := by
        unfold fAndV fB
        rw [Rs.bind_assoc]
        congr 1
        funext x u1
        cases x <;> rfl
      rw [← e]
      exact q) fun d u1 v Hb1 H1 n r h1 => by
    cases d with
    | bool b =>
      refine ⟨b, Rp.scal_bool r, ?_⟩
      cases b with
      | true => exact g env u1 σ Hb1 H1 Q (rel.nxt n) h1
      | false => exact h1.okI n.wf (.bl _)
    | none => exact h1.elim
    | int _ => exact h1.elim
    | str _ => exact h1.elim
    | list _ => exact h1.elim
    | tuple _ => exact h1.elim
    | dict _ => exact h1.elim)
theorem sim_orV (h : SimE C ta fa) (g : SimE C tb fb) : SimE C (tOrV ta tb) (fOrV fa fb) := fun env u σ Hb H Q rel q =>
  h env u σ Hb H _ rel (Post.bind (f := fun (x : D) u1 => match x with | .bool b => if b = true then (.ok (PyData.bool true) u1 : Rs U D) else fb env u1 | _ => .bad) (by
      have e : fOrV fa fb env u = (fa env u).bind (fun (x : D) u1 => match x with | .bool b => if b = true then (.ok (PyData.bool true) u1 : Rs U D) else fb env u1 | _ => .bad) := by
        unfold fOrV fB
        rw [Rs.bind_assoc]
        congr 1
        funext x u1
        cases x <;> rfl
      rw [← e]
      exact q) fun d u1 v Hb1 H1 n r h1 => by
    cases d with
    | bool b =>
      refine ⟨b, Rp.scal_bool r, ?_⟩
      cases b with
      | false => exact g env u1 σ Hb1 H1 Q (rel.nxt n) h1
      | true => exact h1.okI n.wf (.bl _)
    | none => exact h1.elim
    | int _ => exact h1.elim
    | str _ => exact h1.elim
    | list _ => exact h1.elim
    | tuple _ => exact h1.elim
    | dict _ => exact h1.elim)
theorem x_one {op : BoolOp} (h : XE X C a te fe) : XE X C (.BoolOp op [a] pos) te fe := ⟨pe_one h.pe, h.s⟩
theorem x_and {rest : List Expr} (ha : XE X C a ta fa) (hb : XE X C (.BoolOp .And (b :: rest) pos) tb fb) : XE X C (.BoolOp .And (a :: b :: rest) pos) (tAndV ta tb) (fAndV fa fb) := ⟨pe_and ha.pe hb.pe, sim_andV ha.s hb.s⟩
theorem x_or {rest : List Expr} (ha : XE X C a ta fa) (hb : XE X C (.BoolOp .Or (b :: rest) pos) tb fb) : XE X C (.BoolOp .Or (a :: b :: rest) pos) (tOrV ta tb) (fOrV fa fb) := ⟨pe_or ha.pe hb.pe, sim_orV ha.s hb.s⟩
theorem x_not (ha : XE X C a ta fa) : XE X C (.UnaryOp .Not a pos) (tNotV ta) (fNotV fa) := ⟨pe_not ha.pe, sim_notV ha.s⟩
def fIf {U α : Type} (ft : EF U Bool) (fa fb : EF U α) : EF U α := fun env u => (ft env u).bind fun b u1 => if b = true then fa env u1 else fb env u1
theorem sim_if (h : SimT C tt ft) (ha : SimE C ta fa) (hb : SimE C tb fb) : SimE C (tIf tt ta tb) (fIf ft fa fb) := fun env u σ Hb H Q rel q =>
  h env u σ Hb H _ rel (Post.bind q fun b u1 v Hb1 H1 n r h1 => by
    have r : v = b := r
    subst r
    cases v with
    | true => exact ha env u1 σ Hb1 H1 Q (rel.nxt n) h1
    | false => exact hb env u1 σ Hb1 H1 Q (rel.nxt n) h1)
theorem x_if (hc : XT X C c tt ft) (ha : XE X C a ta fa) (hb : XE X C b tb fb) : XE X C (.IfExp c a b pos) (tIf tt ta tb) (fIf ft fa fb) := ⟨pe_ifExp hc.pe ha.pe hb.pe, sim_if hc.s ha.s hb.s⟩

/-! ### arguments, displays -/
def fANil {U : Type} : EF U (List Arg) := fun _ u => .ok [] u
def fACons {U : Type} (fe : EF U D) (fas : EF U (List Arg)) : EF U (List Arg) := fun env u => (fe env u).bind fun d u1 => (fas env u1).bind fun ds u2 => .ok (.d d :: ds) u2
def fATok {U : Type} (i : Nat) (fas : EF U (List Arg)) : EF U (List Arg) := fun env u => match env[i]? with
  | some .tok => (fas env u).bind fun ds u2 => .ok (.tok :: ds) u2
  | _ => .bad
theorem xa_nil : XA X C [] tNil fANil := ⟨pa_nil, fun env u σ Hb H Q r q => q.okI r.wf .nil⟩
theorem sim_acons (h : SimE C te fe) (hr : SimA C tas fas) : SimA C (tCons te tas) (fACons fe fas) := fun env u σ Hb H Q rel q =>
  h env u σ Hb H _ rel (Post.bind q fun d u1 v Hb1 H1 n r h1 =>
    hr env u1 σ Hb1 H1 _ (rel.nxt n) (Post.bind h1 fun ds u2 vs Hb2 H2 n2 rs h2 => h2.okI n2.wf (.cons (a := .d d) (Rp.mono n2.ext r) rs)))
theorem xa_cons (h : XE X C e te fe) (hr : XA X C es tas fas) (hs : starEach (e :: es) X.env = (false, eval e X.env) :: starEach es X.env := by rfl) : XA X C (e :: es) (tCons te tas) (fACons fe fas) := ⟨pa_cons h.pe hr.pe hs, sim_acons h.s hr.s⟩
theorem sim_atok {i : Nat} (hr : SimA C tas fas) : SimA C (tCons (tVar i) tas) (fATok i fas) := fun env u σ Hb H Q rel q => by
  unfold fATok at q
  split at q
  · rename_i hd
    have e : σ[i]?.join = some C.tv := rel.slot i _ hd
    have e2 : σ[i]? = some (some C.tv) := by
      cases hs : σ[i]? with
      | none => rw [hs] at e; cases e
      | some o => rw [hs] at e; exact congrArg some e
    exact ⟨C.tv, e2, hr env u σ Hb H _ rel (Post.bind q fun ds u2 vs Hb2 H2 n2 rs h2 => h2.okI n2.wf (.cons (a := .tok) rfl rs))⟩
  · exact q.elim
theorem xa_tok (i : Nat) {x : Str} {px : Pos} (hr : XA X C es tas fas) (hN : X.N[i]? = some x := by rfl) (hv : Vis X.env.scope x := by first | exact Or.inl rfl | exact Or.inr (Or.inl rfl) | exact Or.inr (Or.inr rfl)) (hd : (x == ("__debug__" : Str)) = false := by decide)
    (hcd : (x == ("__classdict__" : Str)) = false := by decide) (hs : starEach (.Name x px :: es) X.env = (false, eval (.Name x px) X.env) :: starEach es X.env := by rfl) : XA X C (.Name x px :: es) (tCons (tVar i) tas) (fATok i fas) := ⟨pa_cons (pe_var hN hv hd hcd) hr.pe hs, sim_atok hr.s⟩
def argsD : List Arg → Option (List D)
  | [] => some []
  | .d x :: r => (argsD r).map (x :: ·)
  | .tok :: _ => none
theorem ArgsR.data {Hb : Hp} : ∀ {vs : List V} {as : List Arg} {ds : List D}, ArgsR C Hb vs as → argsD as = some ds → RpL C.K Hb vs ds
  | _, _, _, .nil, e => by
    cases Option.some.inj e
    exact .nil
  | _, _, _, .cons (a := .d x) (as := as) h r, e => by
    unfold argsD at e
    cases q : argsD as with
    | none => rw [q] at e; cases e
    | some l =>
      rw [q] at e
      cases Option.some.inj e
      exact .cons h (ArgsR.data r q)
  | _, _, _, .cons (a := .tok) h r, e => by cases e
def line100 : Nat := 100000
theorem line_le {n : Nat} (h : n ≤ line100) : n ≤ sizeLine := Nat.le_trans h (by decide)
theorem line_lt {n : Nat} (h : n < line100) : n < sizeLine := Nat.lt_of_lt_of_le h (by decide)
def fTup {U : Type} (fas : EF U (List Arg)) : EF U D := fun env u => (fas env u).bind fun as u1 => match argsD as with
  | some ds => if ds.length ≤ line100 then .ok (.tuple ds) u1 else .bad
  | none => .bad
def fLst {U : Type} (fas : EF U (List Arg)) : EF U D := fun env u => (fas env u).bind fun as u1 => match argsD as with
  | some ds => if ds.length ≤ line100 then .ok (.list ds) u1 else .bad
  | none => .bad
theorem sim_tup (h : SimA C tas fas) : SimE C (tTup tas) (fTup fas) := fun env u σ Hb H Q rel q =>
  h env u σ Hb H _ rel (Post.bind q fun as u1 vs Hb1 H1 n rs h1 => by
    cases hd : argsD as with
    | none => rw [hd] at h1; exact h1.elim
    | some ds =>
      rw [hd] at h1
      have hl := (rs.data hd).length
      by_cases hz : ds.length ≤ line100
      · simp only [if_pos hz] at h1
        refine ⟨line_le (by omega), fun p hp => ?_⟩
        have nx := Nxt.alloc (o := .tup vs) n.wf hp
        exact h1 _ _ _ nx (.tup upd_same ((rs.data hd).mono nx.ext))
      · simp only [if_neg hz] at h1
        exact h1.elim)
theorem sim_lst (h : SimA C tas fas) : SimN C (tLst tas) (fLst fas) := fun env u σ Hb H Q rel q =>
  h env u σ Hb H _ rel (Post.bind q fun as u1 vs Hb1 H1 n rs h1 => by
    cases hd : argsD as with
    | none => rw [hd] at h1; exact h1.elim
    | some ds =>
      rw [hd] at h1
      have hl := (rs.data hd).length
      by_cases hz : ds.length ≤ line100
      · simp only [if_pos hz] at h1
        refine ⟨line_le (by omega), fun p hp => ?_⟩
        have f := n.wf.fresh hp
        exact h1 _ _ _ (Nxt.allocO (o := .lst vs) n.wf hp) ⟨p, rfl, n.back hp, f.1, f.2, _, upd_same, .lst (rs.data hd)⟩
      · simp only [if_neg hz] at h1
        exact h1.elim)
theorem x_tup {x1} (h : XA X C es tas fas) : XE X C (.Tuple es x1 pos) (tTup tas) (fTup fas) := ⟨pe_tup h.pe, sim_tup h.s⟩
theorem xn_lst (h : XA X C es tas fas) : XN X C (.List es pos) (tLst tas) (fLst fas) := ⟨pe_lst h.pe, sim_lst h.s⟩
def fDNew {U : Type} : EF U D := fun _ u => .ok (.dict []) u
def fDNewT {U : Type} : EF U D := fun _ u => .ok (.dict [(.none, .none)]) u
theorem xn_dK : XN X C (.Dict [] [] pos) tDNewK fDNew := ⟨pe_dnewK, fun env u σ Hb H Q rel q p hp => by
  have f := rel.wf.fresh hp
  exact q _ _ _ (Nxt.allocO (o := .dK []) rel.wf hp) ⟨p, rfl, hp, f.1, f.2, _, upd_same, .dic .nil⟩⟩
theorem xn_dT : XN X C (.Dict [] [] pos) tDNewT fDNewT := ⟨pe_dnewT, fun env u σ Hb H Q rel q p hp => by
  have f := rel.wf.fresh hp
  exact q _ _ _ (Nxt.allocO (o := .dT []) rel.wf hp) ⟨p, rfl, hp, f.1, f.2, _, upd_same, .dit .nil⟩⟩
end
end DL

namespace DL
open PySem L2
open Evl (Ex)

section
variable {U : Type} {C : Ctx U} {u : U} {H0 Hb H : Hp} {v : V}
/-! ### what a value is, from its data -/
theorem RP.int {i : Int} (h : RP C H0 u Hb H v (.int i)) : v = .int i := by
  rcases h with h | ⟨p, _, o⟩
  · exact h.scal_int
  · obtain ⟨_, _, r⟩ := o.at_; cases r
theorem RP.bool {b : Bool} (h : RP C H0 u Hb H v (.bool b)) : v = .bl b := by
  rcases h with h | ⟨p, _, o⟩
  · exact h.scal_bool
  · obtain ⟨_, _, r⟩ := o.at_; cases r
theorem RP.str {x : Str} (h : RP C H0 u Hb H v (.str x)) : v = .str x := by
  rcases h with h | ⟨p, _, o⟩
  · exact h.scal_str
  · obtain ⟨_, _, r⟩ := o.at_; cases r
theorem RP.none (h : RP C H0 u Hb H v .none) : v = .non := by
  rcases h with h | ⟨p, _, o⟩
  · exact h.scal_none
  · obtain ⟨_, _, r⟩ := o.at_; cases r
theorem RP.list {ds : List D} (h : RP C H0 u Hb H v (.list ds)) (w : Wf C.hp u Hb H) : ∃ p xs, v = .ref p ∧ H p = some (.lst xs) ∧ RpL C.K Hb xs ds := by
  rcases h with h | ⟨p, e, o⟩
  · cases h with
    | lst h r => exact ⟨_, _, rfl, w.sub.lst h, r⟩
  · obtain ⟨ob, h, r⟩ := o.at_
    cases r with
    | lst r => exact ⟨p, _, e, h, r⟩
theorem RP.tuple {ds : List D} (h : RP C H0 u Hb H v (.tuple ds)) (w : Wf C.hp u Hb H) : ∃ p xs, v = .ref p ∧ H p = some (.tup xs) ∧ RpL C.K Hb xs ds ∧ Rp C.K Hb v (.tuple ds) := by
  rcases h with h | ⟨p, e, o⟩
  · cases h with
    | tup h r => exact ⟨_, _, rfl, w.sub.tupl h, r, .tup h r⟩
  · obtain ⟨_, _, r⟩ := o.at_; cases r
theorem RP.dict {des : List (D × D)} (h : RP C H0 u Hb H v (.dict des)) (w : Wf C.hp u Hb H) : ∃ p, v = .ref p ∧
    ((∃ kvs, Rd H p (.dK kvs) ∧ RpK C.K Hb (kvs.map fun q => (keyD q.1, q.2)) des) ∨ ∃ kvs ds', des = (.none, .none) :: ds' ∧ Rd H p (.dT kvs) ∧ RpK C.K Hb (kvs.map fun q => (.tuple (q.1.map keyD), q.2)) ds') := by
  rcases h with h | ⟨p, e, o⟩
  · cases h with
    | dic h r => exact ⟨_, rfl, .inl ⟨_, w.sub.rd h, r⟩⟩
    | dit h r => exact ⟨_, rfl, .inr ⟨_, _, rfl, w.sub.rd h, r⟩⟩
  · obtain ⟨ob, h, r⟩ := o.at_
    cases r with
    | dic r => exact ⟨p, e, .inl ⟨_, .inl h, r⟩⟩
    | dit r => exact ⟨p, e, .inr ⟨_, _, rfl, .inl h, r⟩⟩
end

/-! ### sums, differences, products, quotients, rests, powers -/
def mulOk (i j : Int) : Prop := i.natAbs < 9223372036854775808 ∨ j.natAbs < 9223372036854775808 ∨ i.natAbs.log2 + j.natAbs.log2 < 1000000
instance (i j : Int) : Decidable (mulOk i j) := by
  unfold mulOk
  infer_instance
def CMulX (i j : Int) : Prop := CMulW i j ∨ CMul i j
theorem mulOk.x {i j : Int} (h : mulOk i j) : CMulX i j := by
  rcases h with h | h | h
  · exact .inr (.inl ⟨by omega, by omega⟩)
  · exact .inr (.inr ⟨by omega, by omega⟩)
  · exact .inl h
def addD : D → D → Option D
  | .int i, .int j => some (.int (i + j))
  | .str x, .str y => if x.length + y.length ≤ line100 then some (.str (x ++ y)) else none
  | .list xs, .list ys => if xs.length + ys.length ≤ line100 then some (.list (xs ++ ys)) else none
  | .tuple xs, .tuple ys => if xs.length + ys.length ≤ line100 then some (.tuple (xs ++ ys)) else none
  | _, _ => none
def subD : D → D → Option D
  | .int i, .int j => some (.int (i - j))
  | _, _ => none
def mulD : D → D → Option D
  | .int i, .int j => if mulOk i j then some (.int (i * j)) else none
  | .list xs, .int k => if 0 ≤ k ∧ k ≤ 1000 ∧ xs.length ≤ 100 then some (.list (List.replicate k.toNat xs).flatten) else none
  | .tuple xs, .int k => if xs ≠ [] ∧ 2 ≤ k ∧ k ≤ 1000 ∧ xs.length ≤ 100 then some (.tuple (List.replicate k.toNat xs).flatten) else none
  | _, _ => none
def fdivD : D → D → Option D
  | .int i, .int j => if 0 < j ∧ j.natAbs.log2 < 9000 then some (.int (i / j)) else none
  | _, _ => none
def modD : D → D → Option D
  | .int i, .int j => if 0 < j then some (.int (i % j)) else none
  | _, _ => none
def powD : D → D → Option D
  | .int i, .int j => if 0 ≤ j ∧ j ≤ 1000000 ∧ i.natAbs < 2 ^ 64 then some (.int (i ^ j.toNat)) else none
  | _, _ => none
def negD : D → Option D
  | .int i => some (.int (-i))
  | _ => none

theorem RpL.replicate {K : PySem.W.Frag} {H : Hp} {xs : List V} {ds : List D} (r : RpL K H xs ds) : ∀ n : Nat, RpL K H (List.replicate n xs).flatten (List.replicate n ds).flatten
  | 0 => .nil
  | n + 1 => by
    rw [List.replicate_succ, List.replicate_succ, List.flatten_cons, List.flatten_cons]
    exact r.append (RpL.replicate r n)

theorem or_of {a b : Option D} {d : D} (h : a = some d) : a.or b = some d := by rw [h]; rfl
section
variable {U : Type} {C : Ctx U} {X : Cx}
/-- any of two -/
theorem OpS.or {r r' : R2} {op op' : D → D → Option D} (h : OpS C r op) (h' : OpS C r' op') : OpS C (fun x y H Q => r x y H Q ∨ r' x y H Q) (fun a b => (op a b).or (op' a b)) := fun x y dx dy d H0 u Hb H Q e w rx ry q => by
  have e : (op dx dy).or (op' dx dy) = some d := e
  cases e1 : op dx dy with
  | none =>
    rw [e1] at e
    exact .inr (h' x y dx dy d H0 u Hb H Q e w rx ry q)
  | some z =>
    rw [e1] at e
    cases Option.some.inj e
    exact .inl (h x y dx dy _ H0 u Hb H Q e1 w rx ry q)
/-- the meaning may be told otherwise -/
theorem OpS.to {r : R2} {op op' : D → D → Option D} (h : OpS C r op) (e : ∀ a b d, op' a b = some d → op a b = some d) : OpS C r op' := fun x y dx dy d H0 u Hb H Q e' w rx ry q => h x y dx dy d H0 u Hb H Q (e _ _ _ e') w rx ry q
theorem ops_int {op : D → D → Option D} {P : Int → Int → Prop} {g : Int → Int → V} (h : ∀ a b d, op a b = some d → ∃ i j, a = .int i ∧ b = .int j ∧ P i j ∧ ∀ Hb, Rp C.K Hb (g i j) d) : OpS C (rI P g) op := fun x y dx dy d H0 u Hb H Q e w rx ry q => by
  obtain ⟨i, j, rfl, rfl, p, r⟩ := h _ _ _ e
  exact ⟨i, j, rx.int, ry.int, p, q _ Hb H (Nxt.refl w) (r Hb)⟩
theorem ops_int0 {op : D → D → Option D} {g : Int → Int → V} (h : ∀ a b d, op a b = some d → ∃ i j, a = .int i ∧ b = .int j ∧ ∀ Hb, Rp C.K Hb (g i j) d) : OpS C (rI0 g) op := fun x y dx dy d H0 u Hb H Q e w rx ry q => by
  obtain ⟨i, j, rfl, rfl, r⟩ := h _ _ _ e
  exact ⟨i, j, rx.int, ry.int, q _ Hb H (Nxt.refl w) (r Hb)⟩
def addI : D → D → Option D
  | .int i, .int j => some (.int (i + j))
  | _, _ => none
def addS : D → D → Option D
  | .str x, .str y => if x.length + y.length ≤ line100 then some (.str (x ++ y)) else none
  | _, _ => none
def addL : D → D → Option D
  | .list xs, .list ys => if xs.length + ys.length ≤ line100 then some (.list (xs ++ ys)) else none
  | _, _ => none
def addT : D → D → Option D
  | .tuple xs, .tuple ys => if xs.length + ys.length ≤ line100 then some (.tuple (xs ++ ys)) else none
  | _, _ => none
theorem ops_addI : OpS C (rI0 fun i j => .int (i + j)) addI := ops_int0 fun a b d e => by
  unfold addI at e
  split at e
  · cases e; exact ⟨_, _, rfl, rfl, fun _ => .int _⟩
  · cases e
theorem ops_addS : OpS C (fun x y H Q => ∃ i j, x = .str i ∧ y = .str j ∧ i.length + j.length ≤ sizeLine ∧ Q (.str (i ++ j)) H) addS := fun x y dx dy d H0 u Hb H Q e w rx ry q => by
  unfold addS at e
  split at e
  · split at e
    · rename_i h
      cases e
      exact ⟨_, _, rx.str, ry.str, line_le h, q _ Hb H (Nxt.refl w) (.str _)⟩
    · cases e
  · cases e
theorem ops_addL : OpS C rCat addL := fun x y dx dy d H0 u Hb H Q e w rx ry q => by
  unfold addL at e
  split at e
  · split at e
    · rename_i h
      cases e
      obtain ⟨p, xs, ex, hx, rxs⟩ := rx.list w
      obtain ⟨p2, ys, ey, hy, rys⟩ := ry.list w
      refine ⟨p, p2, xs, ys, ex, ey, hx, hy, line_le (by rw [rxs.length, rys.length]; exact h), fun l hl => ?_⟩
      have nx := Nxt.alloc (o := .lst (xs ++ ys)) w hl
      exact q _ _ _ nx (.lst upd_same ((rxs.append rys).mono nx.ext))
    · cases e
  · cases e
theorem ops_addT (hK : X.K = C.K) : OpS C (rCatA X.K) addT := fun x y dx dy d H0 u Hb H Q e w rx ry q => by
  rw [hK]
  unfold addT at e
  split at e
  · split at e
    · rename_i h
      cases e
      obtain ⟨p, xs, ex, hx, rxs, rr⟩ := rx.tuple w
      obtain ⟨p2, ys, ey, hy, rys, rr2⟩ := ry.tuple w
      subst ex
      subst ey
      refine ⟨p, p2, xs, ys, rfl, rfl, SqT.of hx, SqT.of hy, line_le (by rw [rxs.length, rys.length]; exact h), fun e0 => ?_, fun _ e0 => ?_, fun _ _ l hl => ?_⟩
      · subst e0
        cases rxs
        exact q _ Hb H (Nxt.refl w) rr2
      · subst e0
        cases rys
        rw [List.append_nil] at q
        exact q _ Hb H (Nxt.refl w) rr
      · have nx := Nxt.alloc (o := .tup (xs ++ ys)) w hl
        exact q _ _ _ nx (.tup upd_same ((rxs.append rys).mono nx.ext))
    · cases e
  · cases e
theorem ops_add (hK : X.K = C.K) : OpS C (fun x y H Q => rI0 (fun i j => .int (i + j)) x y H Q ∨ (rCat x y H Q ∨ (rCatA X.K x y H Q ∨ ∃ i j, x = .str i ∧ y = .str j ∧ i.length + j.length ≤ sizeLine ∧ Q (.str (i ++ j)) H))) addD :=
  (ops_addI.or (ops_addL.or ((ops_addT hK).or ops_addS))).to fun a b d e => by
    unfold addD at e
    split at e
    · exact e
    · exact e
    · exact or_of (a := addL _ _) e
    · exact or_of (a := addT _ _) e
    · cases e
theorem opr_add : OpR X (binaryOp .Add) (fun x y H Q => rI0 (fun i j => .int (i + j)) x y H Q ∨ (rCat x y H Q ∨ (rCatA X.K x y H Q ∨ ∃ i j, x = .str i ∧ y = .str j ∧ i.length + j.length ≤ sizeLine ∧ Q (.str (i ++ j)) H))) := op_add.or (op_cat.or (op_catA.or op_add_str))
theorem ops_sub : OpS C (rI0 fun i j => .int (i - j)) subD := ops_int0 fun a b d e => by
  unfold subD at e
  split at e
  · cases e; exact ⟨_, _, rfl, rfl, fun _ => .int _⟩
  · cases e
theorem ops_fdiv : OpS C (rI CDivW fun i j => .int (i / j)) fdivD := ops_int fun a b d e => by
  unfold fdivD at e
  split at e
  · split at e
    · rename_i h; cases e; exact ⟨_, _, rfl, rfl, h, fun _ => .int _⟩
    · cases e
  · cases e
theorem ops_mod : OpS C (rI (fun _ j => 0 < j) fun i j => .int (i % j)) modD := ops_int fun a b d e => by
  unfold modD at e
  split at e
  · split at e
    · rename_i h; cases e; exact ⟨_, _, rfl, rfl, h, fun _ => .int _⟩
    · cases e
  · cases e
theorem ops_pow : OpS C (rI CPow fun i j => .int (i ^ j.toNat)) powD := ops_int fun a b d e => by
  unfold powD at e
  split at e
  · split at e
    · rename_i h; cases e; exact ⟨_, _, rfl, rfl, h, fun _ => .int _⟩
    · cases e
  · cases e
theorem uns_neg : UnS C (rU fun i => .int (-i)) negD := fun x dx d H0 u Hb H Q e w rx q => by
  unfold negD at e
  split at e
  · cases e
    exact ⟨_, rx.int, q _ Hb H (Nxt.refl w) (.int _)⟩
  · cases e
def mulI : D → D → Option D
  | .int i, .int j => if mulOk i j then some (.int (i * j)) else none
  | _, _ => none
def mulL : D → D → Option D
  | .list xs, .int k => if 0 ≤ k ∧ k ≤ 1000 ∧ xs.length ≤ 100 then some (.list (List.replicate k.toNat xs).flatten) else none
  | _, _ => none
def mulT : D → D → Option D
  | .tuple xs, .int k => if xs ≠ [] ∧ 2 ≤ k ∧ k ≤ 1000 ∧ xs.length ≤ 100 then some (.tuple (List.replicate k.toNat xs).flatten) else none
  | _, _ => none
theorem op_mulX {X : Cx} : OpR X (binaryOp .Mult) (rI CMulX fun i j => .int (i * j)) := opI fun _ _ _ _ _ _ _ hc q => PyProof.Rows.mul_int q (hc.elim CMulW.ok CMul.ok)
theorem ops_mulI : OpS C (rI CMulX fun i j => .int (i * j)) mulI := ops_int fun a b d e => by
  unfold mulI at e
  split at e
  · split at e
    · rename_i h; cases e; exact ⟨_, _, rfl, rfl, h.x, fun _ => .int _⟩
    · cases e
  · cases e
theorem ops_mulL : OpS C rRep mulL := fun x y dx dy d H0 u Hb H Q e w rx ry q => by
  unfold mulL at e
  split at e
  · split at e
    · rename_i xs k h
      cases e
      obtain ⟨p, vs, ex, hx, rxs⟩ := rx.list w
      have h1 : vs.length * k.toNat ≤ 100 * 1000 := Nat.mul_le_mul (by rw [rxs.length]; exact h.2.2) (by omega)
      refine ⟨p, k, vs, ex, ry.int, hx, by omega, by omega, line_le h1, fun l hl => ?_⟩
      have nx := Nxt.alloc (o := .lst (List.replicate k.toNat vs).flatten) w hl
      exact q _ _ _ nx (.lst upd_same ((rxs.replicate _).mono nx.ext))
    · cases e
  · cases e
theorem ops_mulT (hK : X.K = C.K) : OpS C (rRepT X.K) mulT := fun x y dx dy d H0 u Hb H Q e w rx ry q => by
  rw [hK]
  unfold mulT at e
  split at e
  · split at e
    · rename_i xs k h
      cases e
      obtain ⟨p, vs, ex, hx, rxs, rr⟩ := rx.tuple w
      obtain ⟨h0, h1, h2, h3⟩ := h
      refine ⟨p, k, vs, ex, ry.int, SqT.of hx, fun z => h0 ?_, h1, h2, by rw [rxs.length]; omega, fun l hl => ?_⟩
      · subst z
        cases rxs
        rfl
      · have nx := Nxt.alloc (o := .tup (List.replicate k.toNat vs).flatten) w hl
        exact q _ _ _ nx (.tup upd_same ((rxs.replicate _).mono nx.ext))
    · cases e
  · cases e
theorem ops_mul (hK : X.K = C.K) : OpS C (fun x y H Q => rI CMulX (fun i j => .int (i * j)) x y H Q ∨ (rRep x y H Q ∨ rRepT X.K x y H Q)) mulD :=
  (ops_mulI.or (ops_mulL.or (ops_mulT hK))).to fun a b d e => by
    unfold mulD at e
    split at e
    · exact or_of e
    · exact or_of (a := mulL _ _) e
    · exact e
    · cases e
theorem opr_mul : OpR X (binaryOp .Mult) (fun x y H Q => rI CMulX (fun i j => .int (i * j)) x y H Q ∨ (rRep x y H Q ∨ rRepT X.K x y H Q)) := op_mulX.or (op_rep.or op_repT)

/-! ### comparisons -/
mutual
theorem Rp.dp {K : PySem.W.Frag} {H : Hp} : ∀ {v : V} {d : D}, Rp K H v d → d.hasDict = false → Dp K H v d
  | _, _, .non, _ => .non
  | _, _, .bl b, _ => .bl b
  | _, _, .int i, _ => .int i
  | _, _, .str x, _ => .str x
  | _, _, .lst h r, n => .lst (SqL.of h) (RpL.dp r (by simpa [PyData.hasDict] using n))
  | _, _, .tup h r, n => .tup (SqT.of h) (RpL.dp r (by simpa [PyData.hasDict] using n))
theorem RpL.dp {K : PySem.W.Frag} {H : Hp} : ∀ {vs : List V} {ds : List D}, RpL K H vs ds → PyData.hasDictAll ds = false → DpAll K H vs ds
  | _, _, .nil, _ => .nil
  | _, _, .cons h r, n => .cons (Rp.dp h (by simp [PyData.hasDictAll] at n; exact n.1)) (RpL.dp r (by simp [PyData.hasDictAll] at n; exact n.2))
end
theorem sub_sqt {K : PySem.W.Frag} {Hb H : Hp} (s : Sub Hb H) : True := trivial
mutual
theorem Rp.dpS {K : PySem.W.Frag} {Hb H : Hp} (s : Sub Hb H) : ∀ {v : V} {d : D}, Rp K Hb v d → d.hasDict = false → Dp K H v d
  | _, _, .non, _ => .non
  | _, _, .bl b, _ => .bl b
  | _, _, .int i, _ => .int i
  | _, _, .str x, _ => .str x
  | _, _, .lst h r, n => .lst (SqL.of (s.lst h)) (RpL.dpS s r (by simpa [PyData.hasDict] using n))
  | _, _, .tup h r, n => .tup (SqT.of (s.tupl h)) (RpL.dpS s r (by simpa [PyData.hasDict] using n))
theorem RpL.dpS {K : PySem.W.Frag} {Hb H : Hp} (s : Sub Hb H) : ∀ {vs : List V} {ds : List D}, RpL K Hb vs ds → PyData.hasDictAll ds = false → DpAll K H vs ds
  | _, _, .nil, _ => .nil
  | _, _, .cons h r, n => .cons (Rp.dpS s h (by simp [PyData.hasDictAll] at n; exact n.1)) (RpL.dpS s r (by simp [PyData.hasDictAll] at n; exact n.2))
end
theorem RP.dp {u : U} {H0 Hb H : Hp} {v : V} {d : D} (h : RP C H0 u Hb H v d) (w : Wf C.hp u Hb H) (n : d.hasDict = false) : Dp C.K H v d := by
  rcases h with h | ⟨p, e, o⟩
  · exact h.dpS w.sub n
  · obtain ⟨ob, ho, r⟩ := o.at_
    subst e
    cases r with
    | lst r => exact .lst (SqL.of ho) (r.dpS w.sub (by simpa [PyData.hasDict] using n))
    | dic r => cases n
    | dit r => cases n
/-- == -/
def eqD : D → D → Option Bool
  | .int i, .int j => some (decide (i = j))
  | .str x, .str y => some (decide (x = y))
  | a, b => if SeqAt.shaped a = true ∧ SeqAt.shaped b = true ∧ a.hasDict = false ∧ b.hasDict = false then some (PyData.eqv a b) else none
def eqV (a b : D) : Option D := (eqD a b).map .bool
def neV (a b : D) : Option D := (eqD a b).map fun k => .bool (!k)
theorem dec_vint (i j : Int) : decide (V.int i = V.int j) = decide (i = j) := by
  by_cases h : i = j
  · subst h; simp
  · rw [decide_eq_false h, decide_eq_false fun z => h (V.int.inj z)]
theorem dec_vstr (i j : Str) : decide (V.str i = V.str j) = decide (i = j) := by
  by_cases h : i = j
  · subst h; simp
  · rw [decide_eq_false h, decide_eq_false fun z => h (V.str.inj z)]
theorem ops_eqq {neg : Bool} {r : R2} (hr : ∀ (x y : V) (H : Hp) (Q : VK), (scal x y = true ∧ Q (.bl (if neg = true then !decide (x = y) else decide (x = y))) H) ∨ (∃ d e, Dp C.K H x d ∧ Dp C.K H y e ∧ SeqAt.shaped d = true ∧ SeqAt.shaped e = true ∧ Q (.bl (if neg = true then !PyData.eqv d e else PyData.eqv d e)) H) → r x y H Q) :
    OpS C r (fun a b => (eqD a b).map fun k => .bool (if neg = true then !k else k)) := fun x y dx dy d H0 u Hb H Q e w rx ry q => by
  have e : (eqD dx dy).map (fun k => PyData.bool (if neg = true then !k else k)) = some d := e
  cases eq : eqD dx dy with
  | none => rw [eq] at e; cases e
  | some k =>
    rw [eq] at e
    cases Option.some.inj e
    have fin : ∀ k', k' = k → Q (.bl (if neg = true then !k' else k')) H := fun k' e => by
      subst e
      exact q _ Hb H (Nxt.refl w) (.bl _)
    unfold eqD at eq
    split at eq
    · cases eq
      have e1 := rx.int
      have e2 := ry.int
      subst e1
      subst e2
      refine hr _ _ _ _ (.inl ⟨rfl, ?_⟩)
      rw [dec_vint]
      exact fin _ rfl
    · cases eq
      have e1 := rx.str
      have e2 := ry.str
      subst e1
      subst e2
      refine hr _ _ _ _ (.inl ⟨rfl, ?_⟩)
      rw [dec_vstr]
      exact fin _ rfl
    · split at eq
      · rename_i h
        cases eq
        exact hr _ _ _ _ (.inr ⟨dx, dy, rx.dp w h.2.2.1, ry.dp w h.2.2.2, h.1, h.2.1, fin _ rfl⟩)
      · cases eq
theorem ops_eq (hK : X.K = C.K) : OpS C (fun x y H Q => rEq x y H Q ∨ rEqD X.K x y H Q) eqV :=
  (ops_eqq (neg := false) fun x y H Q h => by rw [hK]; exact h).to fun a b d e => by
    unfold eqV at e
    exact e
theorem ops_ne (hK : X.K = C.K) : OpS C (fun x y H Q => rNe x y H Q ∨ rNeD X.K x y H Q) neV :=
  (ops_eqq (neg := true) fun x y H Q h => by rw [hK]; exact h).to fun a b d e => by
    unfold neV at e
    exact e
theorem opr_eq (hu : X.A.units + 64 < cLine) : OpR X (compareOp .Eq) (fun x y H Q => rEq x y H Q ∨ rEqD X.K x y H Q) := op_eq.or (op_eqD hu)
theorem opr_ne (hu : X.A.units + 64 < cLine) : OpR X (compareOp .NotEq) (fun x y H Q => rNe x y H Q ∨ rNeD X.K x y H Q) := op_ne.or (op_neD hu)
def ltI (i j : Int) : Bool := decide (i < j)
def cmpI (p : Int → Int → Bool) : D → D → Option D
  | .int i, .int j => some (.bool (p i j))
  | _, _ => none
theorem ops_cmpI {p : Int → Int → Bool} : OpS C (rI0 fun i j => .bl (p i j)) (cmpI p) := ops_int0 fun a b d e => by
  unfold cmpI at e
  split at e
  · cases e; exact ⟨_, _, rfl, rfl, fun _ => .bl _⟩
  · cases e
def isNone : D → Bool
  | .none => true
  | _ => false
def isNV (a b : D) : Option D := match b with
  | .none => some (.bool (isNone a))
  | _ => none
def notNV (a b : D) : Option D := match b with
  | .none => some (.bool (!isNone a))
  | _ => none
theorem RP.isNone {u : U} {H0 Hb H : Hp} {v : V} {d : D} (h : RP C H0 u Hb H v d) : decide (v = V.non) = isNone d := by
  cases d with
  | none => rw [h.none]; rfl
  | bool b => rw [h.bool]; rfl
  | int i => rw [h.int]; rfl
  | str x => rw [h.str]; rfl
  | list l =>
    rcases h with h | ⟨p, e, _⟩
    · cases h; rfl
    · rw [e]; rfl
  | tuple l =>
    rcases h with h | ⟨p, e, _⟩
    · cases h; rfl
    · rw [e]; rfl
  | dict l =>
    rcases h with h | ⟨p, e, _⟩
    · cases h <;> rfl
    · rw [e]; rfl
theorem ops_isN : OpS C (fun x y H Q => y = .non ∧ Q (.bl (decide (x = .non))) H) isNV := fun x y dx dy d H0 u Hb H Q e w rx ry q => by
  unfold isNV at e
  split at e
  · cases e
    refine ⟨ry.none, ?_⟩
    rw [rx.isNone]
    exact q _ Hb H (Nxt.refl w) (.bl _)
  · cases e
theorem ops_notN : OpS C (fun x y H Q => y = .non ∧ Q (.bl (!decide (x = .non))) H) notNV := fun x y dx dy d H0 u Hb H Q e w rx ry q => by
  unfold notNV at e
  split at e
  · cases e
    refine ⟨ry.none, ?_⟩
    rw [rx.isNone]
    exact q _ Hb H (Nxt.refl w) (.bl _)
  · cases e
/-! in, not in, of lists and tuples -/
def flatD : D → Bool
  | .none => true
  | .bool _ => true
  | .int _ => true
  | .str _ => true
  | _ => false
def memD (x : D) (ds : List D) : Bool := ds.any fun z => PyData.eqv z x
def inB : D → D → Option Bool
  | x, .list ds => if (flatD x = true ∧ ds.all flatD = true) ∨ (SeqAt.shaped x = true ∧ SeqAt.shaped (.list ds) = true ∧ x.hasDict = false ∧ PyData.hasDictAll ds = false) then some (memD x ds) else none
  | x, .tuple ds => if flatD x = true ∧ ds.all flatD = true then some (memD x ds) else none
  | _, _ => none
def inD (a b : D) : Option D := (inB a b).map .bool
def notInD (a b : D) : Option D := (inB a b).map fun k => .bool (!k)
theorem Rp.flat {K : PySem.W.Frag} {H : Hp} {v : V} {d : D} (h : Rp K H v d) (f : flatD d = true) : flatV v = true := by
  cases h <;> first | rfl | cases f
theorem eqv_flat {K : PySem.W.Frag} {H : Hp} {v w : V} {d e : D} (h : Rp K H v d) (g : Rp K H w e) (f : flatD d = true) (f2 : flatD e = true) : L2.eqV v w = PyData.eqv d e := by
  cases h <;> first | exact absurd (show false = true from f) Bool.false_ne_true | (cases g <;> first | exact absurd (show false = true from f2) Bool.false_ne_true | simp [L2.eqV, PyData.eqv])
theorem RpL.flat {K : PySem.W.Frag} {H : Hp} : ∀ {vs : List V} {ds : List D}, RpL K H vs ds → ds.all flatD = true → vs.all flatV = true
  | _, _, .nil, _ => rfl
  | _, _, .cons h r, f => by
    rw [List.all_cons, Bool.and_eq_true] at f ⊢
    exact ⟨h.flat f.1, RpL.flat r f.2⟩
theorem inV_flat {K : PySem.W.Frag} {H : Hp} {x : V} {d : D} (hx : Rp K H x d) (f : flatD d = true) : ∀ {vs : List V} {ds : List D}, RpL K H vs ds → ds.all flatD = true → inV x vs = memD d ds
  | _, _, .nil, _ => rfl
  | _, _, .cons (v := v) (vs := vs) (d := e) (ds := es) h r, g => by
    rw [List.all_cons, Bool.and_eq_true] at g
    have ih := inV_flat hx f r g.2
    show (L2.eqV v x || inV x vs) = (PyData.eqv e d || memD d es)
    rw [ih, eqv_flat h hx g.1 f]
theorem ops_inq {neg : Bool} {r : R2} (hr : ∀ (x y : V) (H : Hp) (Q : VK), (∃ p xs, y = .ref p ∧ (SqL C.K H p xs ∨ SqT C.K H p xs) ∧ flatV x = true ∧ xs.all flatV = true ∧ Q (.bl (if neg then !inV x xs else inV x xs)) H) ∨
    (∃ d ds, Dp C.K H x d ∧ Dp C.K H y (.list ds) ∧ SeqAt.shaped d = true ∧ SeqAt.shaped (.list ds) = true ∧ Q (.bl (if neg then !(ds.any fun z => PyData.eqv z d) else ds.any fun z => PyData.eqv z d)) H) → r x y H Q) :
    OpS C r (fun a b => (inB a b).map fun k => .bool (if neg = true then !k else k)) := fun x y dx dy d H0 u Hb H Q e w rx ry q => by
  have e : (inB dx dy).map (fun k => PyData.bool (if neg = true then !k else k)) = some d := e
  cases eq : inB dx dy with
  | none => rw [eq] at e; cases e
  | some k =>
    rw [eq] at e
    cases Option.some.inj e
    have fin : ∀ k', k' = k → Q (.bl (if neg = true then !k' else k')) H := fun k' e => by
      subst e
      exact q _ Hb H (Nxt.refl w) (.bl _)
    have xrp : flatD dx = true → Rp C.K Hb x dx := fun f => by
      rcases rx with rx | ⟨p, _, o⟩
      · exact rx
      · obtain ⟨_, _, r⟩ := o.at_
        cases r <;> cases f
    unfold inB at eq
    split at eq
    · rename_i ds
      split at eq
      · rename_i h
        cases eq
        rcases h with ⟨f1, f2⟩ | ⟨s1, s2, n1, n2⟩
        · obtain ⟨p, xs, ey, hy, rys⟩ := ry.list w
          refine hr _ _ _ _ (.inl ⟨p, xs, ey, .inl (SqL.of hy), (xrp f1).flat f1, rys.flat f2, ?_⟩)
          rw [inV_flat (xrp f1) f1 rys f2]
          exact fin _ rfl
        · exact hr _ _ _ _ (.inr ⟨dx, ds, rx.dp w n1, ry.dp w (by simpa [PyData.hasDict] using n2), s1, s2, fin _ rfl⟩)
      · cases eq
    · rename_i ds
      split at eq
      · rename_i h
        cases eq
        obtain ⟨f1, f2⟩ := h
        obtain ⟨p, xs, ey, hy, rys, _⟩ := ry.tuple w
        refine hr _ _ _ _ (.inl ⟨p, xs, ey, .inr (SqT.of hy), (xrp f1).flat f1, rys.flat f2, ?_⟩)
        rw [inV_flat (xrp f1) f1 rys f2]
        exact fin _ rfl
      · cases eq
    · cases eq
theorem ops_in (hK : X.K = C.K) : OpS C (fun x y H Q => rIn X.K false x y H Q ∨ rInD X.K x y H Q) inD := (ops_inq (neg := false) fun x y H Q h => by rw [hK]; exact h).to fun a b d e => e
theorem ops_notIn (hK : X.K = C.K) : OpS C (fun x y H Q => rIn X.K true x y H Q ∨ rNotInD X.K x y H Q) notInD := (ops_inq (neg := true) fun x y H Q h => by rw [hK]; exact h).to fun a b d e => e
theorem opr_in (hu : X.A.units + 65 < cLine) : OpR X (compareOp .In) (fun x y H Q => rIn X.K false x y H Q ∨ rInD X.K x y H Q) := op_in_seq.or (op_inD hu)
theorem opr_notIn (hu : X.A.units + 65 < cLine) : OpR X (compareOp .NotIn) (fun x y H Q => rIn X.K true x y H Q ∨ rNotInD X.K x y H Q) := op_notIn_seq.or (op_notInD hu)
end
end DL

namespace DL
open PySem L2
open Evl (Ex)

/-! ### dicts as lists of pairs; a dict with tuple keys begins with a mark -/
def keqL : List D → List D → Bool
  | [], [] => true
  | .int i :: r, .int j :: t => decide (i = j) && keqL r t
  | .str x :: r, .str y :: t => decide (x = y) && keqL r t
  | _, _ => false
def keq : D → D → Bool
  | .int i, .int j => decide (i = j)
  | .str x, .str y => decide (x = y)
  | .tuple xs, .tuple ys => keqL xs ys
  | _, _ => false
def isKey : D → Bool
  | .int _ => true
  | .str _ => true
  | _ => false
def findD (des : List (D × D)) (k : D) : Option D := (des.find? fun kv => keq kv.1 k).map (·.2)
def putD (des : List (D × D)) (k v : D) : List (D × D) :=
  if (des.any fun kv => keq kv.1 k) = true then des.map (fun kv => if keq kv.1 k = true then (kv.1, v) else kv) else des ++ [(k, v)]
theorem keq_key (a b : Key) : keq (keyD a) (keyD b) = decide (a = b) := by
  cases a with
  | inl i =>
    cases b with
    | inl j => show decide (i = j) = _; rw [key_ll]; rfl
    | inr y => rw [key_lr]; rfl
  | inr x =>
    cases b with
    | inl j => rw [key_rl]; rfl
    | inr y => show decide (x = y) = _; rw [key_rr]
theorem keq_keys : ∀ a b : List Key, keqL (a.map keyD) (b.map keyD) = decide (a = b)
  | [], [] => rfl
  | [], b :: r => by cases b <;> rfl
  | a :: r, [] => by cases a <;> rfl
  | a :: r, b :: t => by
    have ih := keq_keys r t
    have h1 := keq_key a b
    have e : keqL ((a :: r).map keyD) ((b :: t).map keyD) = (keq (keyD a) (keyD b) && keqL (r.map keyD) (t.map keyD)) := by
      cases a <;> cases b <;> first | rfl | (show false = (false && _); rfl)
    rw [e, ih, h1]
    by_cases x : a = b
    · by_cases y : r = t
      · subst x; subst y; simp
      · simp [x, y]
    · simp [x]
section
variable {K : PySem.W.Frag} {H : Hp} {κ : Type} [DecidableEq κ] (kf : κ → D) (hk : ∀ a b, keq (kf a) (kf b) = decide (a = b))
/-- two options that hold alike -/
def RpO (K : PySem.W.Frag) (H : Hp) : Option V → Option D → Prop
  | some v, some d => Rp K H v d
  | none, none => True
  | _, _ => False
include hk in
theorem look_rel (k : κ) : ∀ (kvs : List (κ × V)) (des : List (D × D)), RpK K H (kvs.map fun p => (kf p.1, p.2)) des → RpO K H (valV kvs k) (findD des (kf k))
  | [], _, .nil => trivial
  | (a, v) :: r, _, .cons (d := d) (m := m) h q => by
    have ih := look_rel k r m q
    unfold findD at ih ⊢
    rw [List.find?_cons]
    simp only [hk]
    by_cases e : a = k
    · rw [valV_pos (p := (a, v)) e, decide_eq_true e]
      exact h
    · rw [valV_neg (p := (a, v)) e, decide_eq_false e]
      exact ih
include hk in
theorem any_rel (k : κ) : ∀ (kvs : List (κ × V)) (des : List (D × D)), RpK K H (kvs.map fun p => (kf p.1, p.2)) des → (des.any fun kv => keq kv.1 (kf k)) = (kvs.any fun kv => decide (kv.1 = k))
  | [], _, .nil => rfl
  | (a, v) :: r, _, .cons (d := d) (m := m) h q => by
    rw [List.any_cons, List.any_cons, any_rel k r m q]
    simp only [hk]
include hk in
theorem put_rel1 (k : κ) {v : V} {d : D} (hv : Rp K H v d) : ∀ (kvs : List (κ × V)) (des : List (D × D)), RpK K H (kvs.map fun p => (kf p.1, p.2)) des →
    RpK K H ((kvs.map fun kv => if kv.1 = k then (kv.1, v) else kv).map fun p => (kf p.1, p.2)) (des.map fun kv => if keq kv.1 (kf k) = true then (kv.1, d) else kv)
  | [], _, .nil => .nil
  | (a, w) :: r, _, .cons (m := m) h q => by
    have ih := put_rel1 k hv r m q
    rw [List.map_cons, List.map_cons, List.map_cons]
    simp only [hk]
    by_cases e : a = k
    · rw [if_pos e, if_pos (decide_eq_true e)]
      exact .cons hv ih
    · rw [if_neg e, if_neg (by rw [decide_eq_false e]; exact Bool.false_ne_true)]
      exact .cons h ih
theorem put_rel2 (k : κ) {v : V} {d : D} (hv : Rp K H v d) : ∀ (kvs : List (κ × V)) (des : List (D × D)), RpK K H (kvs.map fun p => (kf p.1, p.2)) des →
    RpK K H ((kvs ++ [(k, v)]).map fun p => (kf p.1, p.2)) (des ++ [(kf k, d)])
  | [], _, .nil => .cons hv .nil
  | (a, w) :: r, _, .cons (m := m) h q => .cons h (put_rel2 k hv r m q)
include hk in
theorem put_rel (k : κ) {v : V} {d : D} (hv : Rp K H v d) (kvs : List (κ × V)) (des : List (D × D)) (h : RpK K H (kvs.map fun p => (kf p.1, p.2)) des) : RpK K H ((putK kvs k v).map fun p => (kf p.1, p.2)) (putD des (kf k) d) := by
  unfold putK putD
  rw [any_rel kf hk k kvs des h]
  split
  · exact put_rel1 kf hk k hv kvs des h
  · exact put_rel2 kf k hv kvs des h
end
theorem RpK.length {K : PySem.W.Frag} {H : Hp} : ∀ {l : List (D × V)} {m : List (D × D)}, RpK K H l m → l.length = m.length
  | _, _, .nil => rfl
  | _, _, .cons _ r => by rw [List.length_cons, List.length_cons, RpK.length r]
/-- no key of a dict of ints and texts is the mark -/
theorem RpK.unmarked {K : PySem.W.Frag} {H : Hp} {kvs : List (Key × V)} {d : D} {r : List (D × D)} : ¬ RpK K H (kvs.map fun p => (keyD p.1, p.2)) ((.none, d) :: r) := fun h => by
  cases kvs with
  | nil => cases h
  | cons p t =>
    obtain ⟨a, v⟩ := p
    generalize hq : ((a, v) :: t).map (fun p : Key × V => (keyD p.1, p.2)) = l at h
    cases h
    rw [List.map_cons] at hq
    injection hq with h1 _
    injection h1 with h2 _
    cases a <;> cases h2
def lookD : List (D × D) → D → Option (Option D)
  | (.none, _) :: r, .tuple ds => if ds.all isKey = true then some (findD r (.tuple ds)) else none
  | (.none, _) :: _, _ => none
  | des, .int i => some (findD des (.int i))
  | des, .str x => some (findD des (.str x))
  | _, _ => none
def setD : List (D × D) → D → D → Option (List (D × D))
  | (.none, z) :: r, .tuple ds, v => if ds.all isKey = true ∧ r.length < line100 then some ((.none, z) :: putD r (.tuple ds) v) else none
  | (.none, _) :: _, _, _ => none
  | des, .int i, v => if des.length < line100 then some (putD des (.int i) v) else none
  | des, .str x, v => if des.length < line100 then some (putD des (.str x) v) else none
  | _, _, _ => none
theorem keys_of {K : PySem.W.Frag} {H : Hp} : ∀ {vs : List V} {ds : List D}, RpL K H vs ds → ds.all isKey = true → ∃ ks : List Key, ds = ks.map keyD ∧ vs = ks.map kV
  | _, _, .nil, _ => ⟨[], rfl, rfl⟩
  | _, _, .cons h r, f => by
    rw [List.all_cons, Bool.and_eq_true] at f
    obtain ⟨ks, e1, e2⟩ := keys_of r f.2
    cases h with
    | int i => exact ⟨.inl i :: ks, by rw [e1]; rfl, by rw [e2]; rfl⟩
    | str x => exact ⟨.inr x :: ks, by rw [e1]; rfl, by rw [e2]; rfl⟩
    | non => cases f.1
    | bl b => cases f.1
    | lst _ _ => cases f.1
    | tup _ _ => cases f.1
    | dic _ _ => cases f.1
    | dit _ _ => cases f.1
section
variable {U : Type} {C : Ctx U} {X : Cx}
/-- what a dict holds at a key -/
theorem RP.get {u : U} {H0 H1 Hb H : Hp} {x y : V} {des : List (D × D)} {k : D} {o : Option D} (hx : RP C H0 u Hb H x (.dict des)) (hy : RP C H1 u Hb H y k) (w : Wf C.hp u Hb H) (e : lookD des k = some o) : ∃ a ov, x = .ref a ∧ DGet H a y ov ∧ RpO C.K Hb ov o := by
  obtain ⟨p, ex, h⟩ := hx.dict w
  rcases h with ⟨kvs, hd, r⟩ | ⟨kvs, ds', rfl, hd, r⟩
  · unfold lookD at e
    split at e
    · exact absurd r RpK.unmarked
    · exact absurd r RpK.unmarked
    · rename_i i _
      cases e
      rw [hy.int]
      exact ⟨p, _, ex, .inl ⟨kvs, .inl i, hd, rfl, rfl⟩, look_rel keyD keq_key (.inl i) kvs des r⟩
    · rename_i i _
      cases e
      rw [hy.str]
      exact ⟨p, _, ex, .inl ⟨kvs, .inr i, hd, rfl, rfl⟩, look_rel keyD keq_key (.inr i) kvs des r⟩
    · cases e
  · cases k with
    | tuple ds =>
      have e : (if ds.all isKey = true then some (findD ds' (.tuple ds)) else Option.none) = some o := e
      split at e
      · rename_i f
        cases e
        obtain ⟨b, vs, ey, hb, rv, _⟩ := hy.tuple w
        obtain ⟨ks, e1, e2⟩ := keys_of rv f
        subst e1
        subst e2
        exact ⟨p, _, ex, .inr ⟨kvs, ks, b, hd, ey, hb, rfl⟩, look_rel (fun k : List Key => .tuple (k.map keyD)) (fun a b => keq_keys a b) ks kvs ds' r⟩
      · cases e
    | none => cases e
    | bool _ => cases e
    | int _ => cases e
    | str _ => cases e
    | list _ => cases e
    | dict _ => cases e

/-! ### subscripts -/
theorem atI_rel {K : PySem.W.Frag} {H : Hp} {xs : List V} {ds : List D} (r : RpL K H xs ds) {i : Int} {d : D} (h : atI ds i = some d) : ∃ v, atI xs i = some v ∧ Rp K H v d := by
  unfold atI at h ⊢
  rw [r.length]
  cases e : ixN ds.length i with
  | none => rw [e] at h; cases h
  | some j =>
    rw [e] at h
    exact r.get h
def ixD : D → D → Option D
  | .list ds, .int i => atI ds i
  | .tuple ds, .int i => atI ds i
  | .str z, .int i => if z.length ≤ line100 then (atI z.cps.toList i).map fun c => .str ⟨#[c]⟩ else none
  | .dict des, k => (lookD des k).join
  | _, _ => none
def ixQ : D → D → Option D
  | .list ds, .int i => atI ds i
  | .tuple ds, .int i => atI ds i
  | .str z, .int i => if z.length ≤ line100 then (atI z.cps.toList i).map fun c => .str ⟨#[c]⟩ else none
  | _, _ => none
theorem ops_ix (hK : X.K = C.K) : OpS C (rIx X.K) ixQ := fun x y dx dy d H0 u Hb H Q e w rx ry q => by
  rw [hK]
  unfold ixQ at e
  split at e
  · obtain ⟨p, xs, ex, hx, rxs⟩ := rx.list w
    obtain ⟨v, h1, h2⟩ := atI_rel rxs e
    exact .inl ⟨p, xs, _, v, ex, ry.int, SqL.of hx, h1, q v Hb H (Nxt.refl w) h2⟩
  · obtain ⟨p, xs, ex, hx, rxs, _⟩ := rx.tuple w
    obtain ⟨v, h1, h2⟩ := atI_rel rxs e
    exact .inr (.inl ⟨p, xs, _, v, ex, ry.int, SqT.of hx, h1, q v Hb H (Nxt.refl w) h2⟩)
  · split at e
    · rename_i z i hz
      cases hc : atI z.cps.toList i with
      | none => rw [hc] at e; cases e
      | some c =>
        rw [hc] at e
        cases e
        exact .inr (.inr ⟨z, i, c, rx.str, ry.int, line_le hz, hc, q _ Hb H (Nxt.refl w) (.str _)⟩)
    · cases e
  · cases e
variable {e a b c : Expr} {te ta tb tc : TE} {fe fa fb fc : EF U D} {tt tu : TT} {ft fu : EF U Bool} {es : List Expr} {tas : TA} {fas : EF U (List Arg)} {pos p : Pos}
theorem x_ix (hK : X.K = C.K) (ha : XP X C a ta fa) (hb : XP X C b tb fb) (hs : PlainIx b := by exact fun _ _ => rfl) : XE X C (.Subscript a b pos) (tOp (rIx X.K) ta tb) (fBin ixQ fa fb) := ⟨pe_ix ix_seq ha.pe hb.pe hs, sim_bin (ops_ix hK) ha.s hb.s⟩
def dgetD : D → D → Option D
  | .dict des, k => (lookD des k).join
  | _, _ => none
theorem sim_dget (ha : SimP C ta fa) (hb : SimP C tb fb) : SimE C (tDGet ta tb) (fBin dgetD fa fb) := fun env u σ Hb H Q rel h =>
  ha env u σ Hb H _ rel (Post.bind h fun dx u1 x Hb1 H1 n1 rx h1 =>
    hb env u1 σ Hb1 H1 _ (rel.nxt n1) (Post.bind h1 fun dy u2 y Hb2 H2 n2 ry h2 => by
      obtain ⟨d, e, h3⟩ := h2.liftO
      unfold dgetD at e
      split at e
      · rename_i des k
        cases eo : lookD k dy with
        | none => rw [eo] at e; cases e
        | some o =>
          rw [eo] at e
          have e : o = some d := e
          subst e
          obtain ⟨p, ov, ex, hd, ro⟩ := RP.get (H1 := H1) (rx.nxt (H0' := H) n2) ry n2.wf eo
          cases ov with
          | none => exact ro.elim
          | some v => exact ⟨p, v, ex, hd, h3.okI n2.wf ro⟩
      · cases e))
theorem x_dget (hu : X.A.units + 1 < cLine) (ha : XP X C a ta fa) (hb : XP X C b tb fb) (hs : NoSl b := by exact fun _ _ => rfl) : XE X C (.Subscript a b pos) (tDGet ta tb) (fBin dgetD fa fb) := ⟨pe_dget hu ha.pe hb.pe hs, sim_dget ha.s hb.s⟩
/-- k in d, k not in d -/
def dinD (x y : D) : Option D := match y with
  | .dict des => (lookD des x).map fun o => .bool o.isSome
  | _ => none
def dninD (x y : D) : Option D := match y with
  | .dict des => (lookD des x).map fun o => .bool (!o.isSome)
  | _ => none
theorem RpO.isSome {K : PySem.W.Frag} {H : Hp} {ov : Option V} {o : Option D} (h : RpO K H ov o) : ov.isSome = o.isSome := by
  cases ov <;> cases o <;> first | rfl | exact h.elim
theorem sim_din (ha : SimP C ta fa) (hb : SimP C tb fb) : SimE C (tDIn ta tb) (fBin dinD fa fb) := fun env u σ Hb H Q rel h =>
  ha env u σ Hb H _ rel (Post.bind h fun dx u1 x Hb1 H1 n1 rx h1 =>
    hb env u1 σ Hb1 H1 _ (rel.nxt n1) (Post.bind h1 fun dy u2 y Hb2 H2 n2 ry h2 => by
      obtain ⟨d, e, h3⟩ := h2.liftO
      unfold dinD at e
      split at e
      · rename_i des
        cases eo : lookD des dx with
        | none => rw [eo] at e; cases e
        | some o =>
          rw [eo] at e
          cases e
          obtain ⟨p, ov, ex, hd, ro⟩ := RP.get (H1 := H) ry (rx.nxt (H0' := H) n2) n2.wf eo
          refine ⟨p, ov, ex, hd, ?_⟩
          rw [ro.isSome]
          exact h3.okI n2.wf (.bl _)
      · cases e))
theorem sim_dnin (ha : SimP C ta fa) (hb : SimP C tb fb) : SimE C (tDNotIn ta tb) (fBin dninD fa fb) := fun env u σ Hb H Q rel h =>
  ha env u σ Hb H _ rel (Post.bind h fun dx u1 x Hb1 H1 n1 rx h1 =>
    hb env u1 σ Hb1 H1 _ (rel.nxt n1) (Post.bind h1 fun dy u2 y Hb2 H2 n2 ry h2 => by
      obtain ⟨d, e, h3⟩ := h2.liftO
      unfold dninD at e
      split at e
      · rename_i des
        cases eo : lookD des dx with
        | none => rw [eo] at e; cases e
        | some o =>
          rw [eo] at e
          cases e
          obtain ⟨p, ov, ex, hd, ro⟩ := RP.get (H1 := H) ry (rx.nxt (H0' := H) n2) n2.wf eo
          refine ⟨p, ov, ex, hd, ?_⟩
          rw [ro.isSome]
          exact h3.okI n2.wf (.bl _)
      · cases e))
theorem x_din (hu : X.A.units + 1 < cLine) (ha : XP X C a ta fa) (hb : XP X C b tb fb) (hm : behindInMarks .In b = false := by rfl) : XE X C (.Compare a [.In] [b] pos) (tDIn ta tb) (fBin dinD fa fb) := ⟨pe_cmp (pc_din hu ha.pe hb.pe) hm, sim_din ha.s hb.s⟩
theorem x_dnin (hu : X.A.units + 1 < cLine) (ha : XP X C a ta fa) (hb : XP X C b tb fb) (hm : behindInMarks .NotIn b = false := by rfl) : XE X C (.Compare a [.NotIn] [b] pos) (tDNotIn ta tb) (fBin dninD fa fb) := ⟨pe_cmp (pc_dnotin hu ha.pe hb.pe) hm, sim_dnin ha.s hb.s⟩
theorem xt_din (hu : X.A.units + 1 < cLine) (ha : XP X C a ta fa) (hb : XP X C b tb fb) (hm : behindInMarks .In b = false := by rfl) : XT X C (.Compare a [.In] [b] pos) (tB (tDIn ta tb)) (fB (fBin dinD fa fb)) := ⟨pt_cmp (pc_din hu ha.pe hb.pe) hm, sim_B (sim_din ha.s hb.s)⟩
theorem xt_dnin (hu : X.A.units + 1 < cLine) (ha : XP X C a ta fa) (hb : XP X C b tb fb) (hm : behindInMarks .NotIn b = false := by rfl) : XT X C (.Compare a [.NotIn] [b] pos) (tB (tDNotIn ta tb)) (fB (fBin dninD fa fb)) := ⟨pt_cmp (pc_dnotin hu ha.pe hb.pe) hm, sim_B (sim_dnin ha.s hb.s)⟩

/-! ### slices -/
structure XO (X : Cx) (C : Ctx U) (e : Option Expr) (to : TO) (fo : EF U (Option Int)) : Prop where
  pe : PO X e to
  s : Sim C (fun _ _ _ _ (b : Option Int) c => b = c) to fo
def fNoPart {U : Type} : EF U (Option Int) := fun _ u => .ok none u
def fPart {U : Type} (fe : EF U D) : EF U (Option Int) := fun env u => (fe env u).bind fun d u1 => match d with
  | .int i => .ok (some i) u1
  | _ => .bad
theorem xo_none : XO X C none tNoPart fNoPart := ⟨po_none, fun env u σ Hb H Q rel q => q.okI rel.wf rfl⟩
theorem xo_some (h : XE X C e te fe) : XO X C (some e) (tPart te) (fPart fe) := ⟨po_some h.pe, fun env u σ Hb H Q rel q =>
  h.s env u σ Hb H _ rel (Post.bind q fun d u1 v Hb1 H1 n r h1 => by
    cases d with
    | int i => exact ⟨i, Rp.scal_int r, h1.okI n.wf rfl⟩
    | none => exact h1.elim
    | bool _ => exact h1.elim
    | str _ => exact h1.elim
    | list _ => exact h1.elim
    | tuple _ => exact h1.elim
    | dict _ => exact h1.elim)⟩
def cutD {α : Type} (xs : List α) (lo hi : Option Int) : List α := (xs.drop (HT.sIx xs.length 0 lo)).take (HT.sIx xs.length xs.length hi - HT.sIx xs.length 0 lo)
theorem cut_rel {K : PySem.W.Frag} {H : Hp} {xs : List V} {ds : List D} (r : RpL K H xs ds) (lo hi : Option Int) : RpL K H (cutV xs lo hi) (cutD ds lo hi) := by
  unfold cutV cutD
  rw [r.length]
  exact (r.drop _).take _
def sliceD (x : D) (lo hi : Option Int) : Option D := match x with
  | .list ds => some (.list (cutD ds lo hi))
  | .tuple ds => some (.tuple (cutD ds lo hi))
  | _ => none
def fSlice {U : Type} (fe : EF U D) (fl fh : EF U (Option Int)) : EF U D := fun env u => (fe env u).bind fun d u1 => (fl env u1).bind fun lo u2 => (fh env u2).bind fun hi u3 => liftO (sliceD d lo hi) u3
theorem cutD_all {α : Type} {xs : List α} {lo hi : Option Int} (h : HT.sIx xs.length 0 lo = 0 ∧ HT.sIx xs.length xs.length hi = xs.length) : cutD xs lo hi = xs := by
  unfold cutD
  rw [h.1, h.2, List.drop_zero, Nat.sub_zero, List.take_length]
theorem sim_slice (hK : X.K = C.K) {tl th : TO} {fl fh : EF U (Option Int)} (ha : SimP C te fe) (hl : Sim C (fun _ _ _ _ (b : Option Int) c => b = c) tl fl) (hh : Sim C (fun _ _ _ _ (b : Option Int) c => b = c) th fh) :
    SimE C (tSl (fun x lo hi H Q => rSlL X.K x lo hi H Q ∨ rSlA X.K x lo hi H Q) te tl th) (fSlice fe fl fh) := fun env u σ Hb H Q rel h => by
  refine ha env u σ Hb H _ rel (Post.bind h fun dx u1 x Hb1 H1 n1 rx h1 => ?_)
  refine hl env u1 σ Hb1 H1 _ (rel.nxt n1) (Post.bind h1 fun lo u2 lo' Hb2 H2 n2 r2 h2 => ?_)
  refine hh env u2 σ Hb2 H2 _ ((rel.nxt n1).nxt n2) (Post.bind h2 fun hi u3 hi' Hb3 H3 n3 r3 h3 => ?_)
  subst r2
  subst r3
  rw [hK]
  obtain ⟨d, e, h4⟩ := h3.liftO
  have rx3 := (rx.nxt (H0' := H) n2).nxt (H0' := H) n3
  unfold sliceD at e
  split at e
  · cases e
    obtain ⟨p, xs, ex, hx, rxs⟩ := rx3.list n3.wf
    refine .inl ⟨p, xs, ex, SqL.of hx, fun l hl => ?_⟩
    have nx := Nxt.alloc (o := .lst (cutV xs lo' hi')) n3.wf hl
    exact h4 _ _ _ nx (.lst upd_same ((cut_rel rxs lo' hi').mono nx.ext))
  · rename_i ds
    cases e
    obtain ⟨p, xs, ex, hx, rxs, rr⟩ := rx3.tuple n3.wf
    refine .inr ⟨p, xs, ex, SqT.of hx, fun hw => ?_, fun _ l hl => ?_⟩
    · refine h4.okI n3.wf ?_
      rw [← ex, cutD_all (by rw [← rxs.length]; exact hw)]
      exact rr
    · have nx := Nxt.alloc (o := .tup (cutV xs lo' hi')) n3.wf hl
      exact h4 _ _ _ nx (.tup upd_same ((cut_rel rxs lo' hi').mono nx.ext))
  · cases e
theorem x_slice (hK : X.K = C.K) {lo hi : Option Expr} {tl th : TO} {fl fh : EF U (Option Int)} {p2 : Pos} (ha : XP X C e te fe) (hl : XO X C lo tl fl) (hh : XO X C hi th fh) :
    XE X C (.Subscript e (.Slice lo hi none p2) pos) (tSl (fun x lo hi H Q => rSlL X.K x lo hi H Q ∨ rSlA X.K x lo hi H Q) te tl th) (fSlice fe fl fh) := ⟨pe_slice (sl_list.or sl_tupA) ha.pe hl.pe hh.pe, sim_slice hK ha.s hl.s hh.s⟩

/-! ### built-in calls -/
inductive RPLs (C : Ctx U) (u : U) (Hb H : Hp) : List V → List D → Prop
  | nil : RPLs C u Hb H [] []
  | cons {v : V} {vs : List V} {d : D} {ds : List D} : RP C H u Hb H v d → RPLs C u Hb H vs ds → RPLs C u Hb H (v :: vs) (d :: ds)
def RPL (C : Ctx U) : Hp → U → Hp → Hp → List V → List D → Prop := fun _ u Hb H vs ds => RPLs C u Hb H vs ds
structure XPs (X : Cx) (C : Ctx U) (es : List Expr) (ta : TA) (fa : EF U (List D)) : Prop where
  pe : PA X es ta
  s : Sim C (RPL C) ta fa
def fPNil {U : Type} : EF U (List D) := fun _ u => .ok [] u
def fPCons {U : Type} (fe : EF U D) (fas : EF U (List D)) : EF U (List D) := fun env u => (fe env u).bind fun d u1 => (fas env u1).bind fun ds u2 => .ok (d :: ds) u2
theorem xps_nil : XPs X C [] tNil fPNil := ⟨pa_nil, fun env u σ Hb H Q r q => q.okI r.wf .nil⟩
theorem xps_cons {fps : EF U (List D)} (h : XP X C e te fe) (hr : XPs X C es tas fps) (hs : starEach (e :: es) X.env = (false, eval e X.env) :: starEach es X.env := by rfl) : XPs X C (e :: es) (tCons te tas) (fPCons fe fps) := ⟨pa_cons h.pe hr.pe hs, fun env u σ Hb H Q rel q =>
  h.s env u σ Hb H _ rel (Post.bind q fun d u1 v Hb1 H1 n r h1 =>
    hr.s env u1 σ Hb1 H1 _ (rel.nxt n) (Post.bind h1 fun ds u2 vs Hb2 H2 n2 rs h2 => h2.okI n2.wf (.cons (r.nxt n2) rs)))⟩
def fCall {U : Type} (f : List D → Option D) (fas : EF U (List D)) : EF U D := fun env u => (fas env u).bind fun ds u1 => liftO (f ds) u1
def CallS (C : Ctx U) (r : List V → Hp → VK → Prop) (f : List D → Option D) : Prop := ∀ (vs : List V) (ds : List D) (d : D) (u : U) (Hb H : Hp) (Q : VK), f ds = some d → Wf C.hp u Hb H → RPLs C u Hb H vs ds →
  (∀ v Hb' H', Nxt C.hp u u Hb H Hb' H' → Rp C.K Hb' v d → Q v H') → r vs H Q
/-- the outcome a new container -/
def CallN (C : Ctx U) (r : List V → Hp → VK → Prop) (f : List D → Option D) : Prop := ∀ (vs : List V) (ds : List D) (d : D) (u : U) (Hb H : Hp) (Q : VK), f ds = some d → Wf C.hp u Hb H → RPLs C u Hb H vs ds →
  (∀ p o, H p = none → OwnRp C.K Hb o d → Q (.ref p) (upd H p o)) → r vs H Q
theorem sim_call {r : List V → Hp → VK → Prop} {f : List D → Option D} {fps : EF U (List D)} (hc : CallS C r f) (ha : Sim C (RPL C) tas fps) : SimE C (tCB r tas) (fCall f fps) := fun env u σ Hb H Q rel h =>
  ha env u σ Hb H _ rel (Post.bind h fun ds u1 vs Hb1 H1 n1 rx h1 => by
    obtain ⟨d, e, h2⟩ := h1.liftO
    exact hc vs ds d u1 Hb1 H1 Q e n1.wf rx h2)
theorem sim_callN {r : List V → Hp → VK → Prop} {f : List D → Option D} {fps : EF U (List D)} (hc : CallN C r f) (ha : Sim C (RPL C) tas fps) : SimN C (tCB r tas) (fCall f fps) := fun env u σ Hb H Q rel h =>
  ha env u σ Hb H _ rel (Post.bind h fun ds u1 vs Hb1 H1 n1 rx h1 => by
    obtain ⟨d, e, h2⟩ := h1.liftO
    refine hc vs ds d u1 Hb1 H1 Q e n1.wf rx fun p o hp ho => ?_
    have f := n1.wf.fresh hp
    exact h2 _ _ _ (Nxt.allocO n1.wf hp) ⟨p, rfl, n1.back hp, f.1, f.2, o, upd_same, ho⟩)
variable {x : Str} {id T : String} {r : List V → Hp → VK → Prop} {f : List D → Option D} {fps : EF U (List D)}
theorem x_cb (hc : CallR X (.builtin id) r) (hs : CallS C r f) (hg : Gl X x) (hm : X.mg x = none) (hv : bootBuiltins x = some (.builtin id)) (ha : XPs X C (e :: es) tas fps) (hn : x ≠ "__name__" := by decide) (hdb : (x == ("__debug__" : Str)) = false := by decide)
    (he : starEach (e :: es) X.env = (false, eval e X.env) :: starEach es X.env := by rfl) (hpl : (backTo pos (starEach es X.env)).any (·.1) = false := by rfl) : XE X C (.Call (.Name x p) (e :: es) [] pos) (tCB r tas) (fCall f fps) := ⟨pe_callB hc hg hm hv ha.pe hn hdb he hpl, sim_call hs ha.s⟩
theorem xn_cb (hc : CallR X (.builtin id) r) (hs : CallN C r f) (hg : Gl X x) (hm : X.mg x = none) (hv : bootBuiltins x = some (.builtin id)) (ha : XPs X C (e :: es) tas fps) (hn : x ≠ "__name__" := by decide) (hdb : (x == ("__debug__" : Str)) = false := by decide)
    (he : starEach (e :: es) X.env = (false, eval e X.env) :: starEach es X.env := by rfl) (hpl : (backTo pos (starEach es X.env)).any (·.1) = false := by rfl) : XN X C (.Call (.Name x p) (e :: es) [] pos) (tCB r tas) (fCall f fps) := ⟨pe_callB hc hg hm hv ha.pe hn hdb he hpl, sim_callN hs ha.s⟩
theorem x_ct (hc : CallR X (.type T) r) (hs : CallS C r f) (hg : Gl X x) (hm : X.mg x = none) (hv : bootBuiltins x = some (.type T)) (ha : XPs X C (e :: es) tas fps) (hn : x ≠ "__name__" := by decide) (hdb : (x == ("__debug__" : Str)) = false := by decide)
    (he : starEach (e :: es) X.env = (false, eval e X.env) :: starEach es X.env := by rfl) (hpl : (backTo pos (starEach es X.env)).any (·.1) = false := by rfl) : XE X C (.Call (.Name x p) (e :: es) [] pos) (tCB r tas) (fCall f fps) := ⟨pe_callTy hc hg hm hv ha.pe hn hdb he hpl, sim_call hs ha.s⟩
theorem xn_ct (hc : CallR X (.type T) r) (hs : CallN C r f) (hg : Gl X x) (hm : X.mg x = none) (hv : bootBuiltins x = some (.type T)) (ha : XPs X C (e :: es) tas fps) (hn : x ≠ "__name__" := by decide) (hdb : (x == ("__debug__" : Str)) = false := by decide)
    (he : starEach (e :: es) X.env = (false, eval e X.env) :: starEach es X.env := by rfl) (hpl : (backTo pos (starEach es X.env)).any (·.1) = false := by rfl) : XN X C (.Call (.Name x p) (e :: es) [] pos) (tCB r tas) (fCall f fps) := ⟨pe_callTy hc hg hm hv ha.pe hn hdb he hpl, sim_callN hs ha.s⟩
/-- a module's name for a built-in function -/
theorem x_cf (hc : CallR X (.builtin id) r) (hs : CallS C r f) (hg : Gl X x) (hm : X.mg x = some (.builtin id)) (ha : XPs X C (e :: es) tas fps) (hdb : (x == ("__debug__" : Str)) = false := by decide)
    (he : starEach (e :: es) X.env = (false, eval e X.env) :: starEach es X.env := by rfl) (hpl : (backTo pos (starEach es X.env)).any (·.1) = false := by rfl) : XE X C (.Call (.Name x p) (e :: es) [] pos) (tCB r tas) (fCall f fps) := ⟨pe_callBfun hc hg hm ha.pe hdb he hpl, sim_call hs ha.s⟩
end
end DL

namespace DL
open PySem L2
open Evl (Ex)

/-! ### str * int -/
theorem size_rep (a : Array Nat) : ∀ (n : Nat) (acc : Array Nat), ((List.replicate n a).foldl (· ++ ·) acc).size = acc.size + n * a.size
  | 0, acc => by simp
  | n + 1, acc => by
    rw [List.replicate_succ, List.foldl_cons, size_rep a n, Array.size_append, Nat.succ_mul]
    omega
def repS (z : Str) (n : Nat) : Str := ⟨(List.replicate n z.cps).foldl (· ++ ·) #[]⟩
section
variable {X : Cx}
def rMulS : R2 := fun x y H Q => ∃ z k, x = .str z ∧ y = .int k ∧ 2 ≤ k ∧ k ≤ 10000 ∧ 0 < z.length ∧ z.length ≤ 1000 ∧ Q (.str (repS z k.toNat)) H
theorem op_mul_str : OpR X (binaryOp .Mult) rMulS := fun pins s σ H x y v w Q I rx ry h => by
  obtain ⟨z, k, rfl, rfl, h1, h2, h3, h4, q⟩ := h
  obtain ⟨t, rfl⟩ := rx
  obtain ⟨t', rfl⟩ := ry
  have hn : ¬ k < 1 := by omega
  have ho : (k == 1 || z.length == 0) = false := by
    rw [beq_eq_false_iff_ne.mpr (by omega : k ≠ 1), beq_eq_false_iff_ne.mpr (by omega : z.length ≠ 0)]; rfl
  have hm : z.length * k.toNat ≤ 1000 * 10000 := Nat.mul_le_mul h4 (by omega)
  refine P.mul_str (by rw [decide_eq_false (by omega : ¬ k < -(2 ^ 63 : Int)), decide_eq_false (by omega : ¬ k ≥ 2 ^ 63)]; rfl) (fun _ _ => ?_) (fun _ _ => ?_) ?_
  · have : (2 ^ 63 - 1 : Int) / k ≥ (2 ^ 63 - 1) / 10000 := by
      refine Int.le_ediv_of_mul_le (by omega) ?_
      have : ((2 ^ 63 - 1 : Int) / 10000) * k ≤ ((2 ^ 63 - 1) / 10000) * 10000 := Int.mul_le_mul_of_nonneg_left h2 (by decide)
      omega
    omega
  · exact decide_eq_false (by rw [sizeLine_eq]; omega)
  · rw [if_neg hn, if_neg (by rw [ho]; exact Bool.false_ne_true)]
    have e : (repS z k.toNat).length ≤ sizeLine := by
      have : (repS z k.toNat).length = (#[] : Array Nat).size + k.toNat * z.length := size_rep z.cps k.toNat #[]
      rw [this, sizeLine_eq, Nat.mul_comm]
      show 0 + _ ≤ _
      omega
    exact ⟨e, ⟨.str (repS z k.toNat), H, I.tok _, ⟨_, rfl⟩, q⟩⟩
end
def mulS : D → D → Option D
  | .str z, .int k => if 2 ≤ k ∧ k ≤ 10000 ∧ 0 < z.length ∧ z.length ≤ 1000 then some (.str (repS z k.toNat)) else none
  | _, _ => none
section
variable {U : Type} {C : Ctx U} {X : Cx}
theorem ops_mulS : OpS C rMulS mulS := fun x y dx dy d H0 u Hb H Q e w rx ry q => by
  unfold mulS at e
  split at e
  · split at e
    · rename_i h
      cases e
      exact ⟨_, _, rx.str, ry.int, h.1, h.2.1, h.2.2.1, h.2.2.2, q _ Hb H (Nxt.refl w) (.str _)⟩
    · cases e
  · cases e

/-! ### calls of built-ins -/
theorem CallS.or {r r' : List V → Hp → VK → Prop} {f f' : List D → Option D} (h : CallS C r f) (h' : CallS C r' f') : CallS C (fun xs H Q => r xs H Q ∨ r' xs H Q) (fun ds => (f ds).or (f' ds)) := fun vs ds d u Hb H Q e w rx q => by
  have e : (f ds).or (f' ds) = some d := e
  cases e1 : f ds with
  | none =>
    rw [e1] at e
    exact .inr (h' vs ds d u Hb H Q e w rx q)
  | some z =>
    rw [e1] at e
    cases Option.some.inj e
    exact .inl (h vs ds _ u Hb H Q e1 w rx q)
theorem CallS.to {r : List V → Hp → VK → Prop} {f f' : List D → Option D} (h : CallS C r f) (e : ∀ ds d, f' ds = some d → f ds = some d) : CallS C r f' := fun vs ds d u Hb H Q e' w rx q => h vs ds d u Hb H Q (e _ _ e') w rx q
theorem CallN.s {r : List V → Hp → VK → Prop} {f : List D → Option D} (h : CallN C r f) : CallS C r f := fun vs ds d u Hb H Q e w rx q =>
  h vs ds d u Hb H Q e w rx fun p o hp ho => by
    have nx := Nxt.alloc (o := o) w hp
    refine q _ _ _ nx ?_
    cases ho with
    | lst r => exact .lst upd_same (r.mono nx.ext)
    | dic r => exact .dic upd_same (r.mono nx.ext)
    | dit r => exact .dit upd_same (r.mono nx.ext)
theorem RPLs.one {u : U} {Hb H : Hp} {vs : List V} {d : D} (h : RPLs C u Hb H vs [d]) : ∃ v, vs = [v] ∧ RP C H u Hb H v d := by
  cases h with
  | cons h t => cases t; exact ⟨_, rfl, h⟩
theorem RPLs.two {u : U} {Hb H : Hp} {vs : List V} {d e : D} (h : RPLs C u Hb H vs [d, e]) : ∃ v w, vs = [v, w] ∧ RP C H u Hb H v d ∧ RP C H u Hb H w e := by
  cases h with
  | cons h t =>
    cases t with
    | cons h2 t => cases t; exact ⟨_, _, rfl, h, h2⟩
/-- len -/
def lenD : List D → Option D
  | [.list ds] => some (.int ds.length)
  | [.tuple ds] => some (.int ds.length)
  | [.str z] => if z.length ≤ line100 then some (.int z.length) else none
  | _ => none
theorem calls_len (hK : X.K = C.K) : CallS C (fun xs H Q => ∃ x n, xs = [x] ∧ LenV X.K x H n ∧ Q (.int n) H) lenD := fun vs ds d u Hb H Q e w rx q => by
  rw [hK]
  unfold lenD at e
  split at e
  · cases e
    obtain ⟨v, ev, r⟩ := rx.one
    obtain ⟨p, xs, ex, hx, rxs⟩ := r.list w
    subst ex
    exact ⟨_, _, ev, .inl ⟨xs, SqL.of hx, rxs.length.symm⟩, q _ Hb H (Nxt.refl w) (.int _)⟩
  · cases e
    obtain ⟨v, ev, r⟩ := rx.one
    obtain ⟨p, xs, ex, hx, rxs, _⟩ := r.tuple w
    subst ex
    exact ⟨_, _, ev, .inr ⟨xs, SqT.of hx, rxs.length.symm⟩, q _ Hb H (Nxt.refl w) (.int _)⟩
  · split at e
    · rename_i h
      cases e
      obtain ⟨v, ev, r⟩ := rx.one
      have r := r.str
      subst r
      exact ⟨_, _, ev, ⟨line_le h, rfl⟩, q _ Hb H (Nxt.refl w) (.int _)⟩
    · cases e
  · cases e
def absD : List D → Option D
  | [.int i] => some (.int (if i < 0 then -i else i))
  | _ => none
theorem calls_abs : CallS C (fun xs H Q => ∃ i, xs = [.int i] ∧ Q (.int (if i < 0 then -i else i)) H) absD := fun vs ds d u Hb H Q e w rx q => by
  unfold absD at e
  split at e
  · cases e
    obtain ⟨v, ev, r⟩ := rx.one
    exact ⟨_, by rw [ev, r.int], q _ Hb H (Nxt.refl w) (.int _)⟩
  · cases e
/-- int of an int, of a text -/
def intD : List D → Option D
  | [.int i] => some (.int i)
  | [.bool b] => some (.int (if b then 1 else 0))
  | [.str a] => if a.length ≤ 640 then (PySem.intText? a).map .int else none
  | _ => none
theorem calls_int : CallS C (fun xs H Q => ((∃ i, xs = [.int i] ∧ Q (.int i) H) ∨ ∃ k, xs = [.bl k] ∧ Q (.int (if k then 1 else 0)) H) ∨ ∃ a n, xs = [.str a] ∧ PySem.intText? a = some n ∧ a.length ≤ 640 ∧ Q (.int n) H) intD := fun vs ds d u Hb H Q e w rx q => by
  unfold intD at e
  split at e
  · cases e
    obtain ⟨v, ev, r⟩ := rx.one
    exact .inl (.inl ⟨_, by rw [ev, r.int], q _ Hb H (Nxt.refl w) (.int _)⟩)
  · cases e
    obtain ⟨v, ev, r⟩ := rx.one
    exact .inl (.inr ⟨_, by rw [ev, r.bool], q _ Hb H (Nxt.refl w) (.int _)⟩)
  · split at e
    · rename_i a h
      obtain ⟨v, ev, r⟩ := rx.one
      cases hn : PySem.intText? a with
      | none => rw [hn] at e; cases e
      | some n =>
        rw [hn] at e
        cases e
        exact .inr ⟨a, n, by rw [ev, r.str], hn, h, q _ Hb H (Nxt.refl w) (.int _)⟩
    · cases e
  · cases e
theorem callr_int : CallR X (.type "int") (fun xs H Q => ((∃ i, xs = [.int i] ∧ Q (.int i) H) ∨ ∃ k, xs = [.bl k] ∧ Q (.int (if k then 1 else 0)) H) ∨ ∃ a n, xs = [.str a] ∧ PySem.intText? a = some n ∧ a.length ≤ 640 ∧ Q (.int n) H) := call_int1.or call_int_str
def strD : List D → Option D
  | [.int i] => if i.natAbs.log2 < 1920 then some (.str (toString i)) else none
  | [.str a] => some (.str a)
  | _ => none
theorem calls_str : CallS C (fun xs H Q => (∃ i, xs = [.int i] ∧ i.natAbs.log2 < 1920 ∧ Q (.str (toString i)) H) ∨ ∃ a, xs = [.str a] ∧ Q (.str a) H) strD := fun vs ds d u Hb H Q e w rx q => by
  unfold strD at e
  split at e
  · split at e
    · rename_i h
      cases e
      obtain ⟨v, ev, r⟩ := rx.one
      exact .inl ⟨_, by rw [ev, r.int], h, q _ Hb H (Nxt.refl w) (.str _)⟩
    · cases e
  · cases e
    obtain ⟨v, ev, r⟩ := rx.one
    exact .inr ⟨_, by rw [ev, r.str], q _ Hb H (Nxt.refl w) (.str _)⟩
  · cases e
theorem callr_str : CallR X (.type "str") (fun xs H Q => (∃ i, xs = [.int i] ∧ i.natAbs.log2 < 1920 ∧ Q (.str (toString i)) H) ∨ ∃ a, xs = [.str a] ∧ Q (.str a) H) := call_str_int.or SkE.call_str_str
/-- lists of ints, of bools -/
def intsD : List D → Option (List Int)
  | [] => some []
  | .int i :: r => (intsD r).map (i :: ·)
  | _ => none
def boolsD : List D → Option (List Bool)
  | [] => some []
  | .bool i :: r => (boolsD r).map (i :: ·)
  | _ => none
theorem intsD_eq : ∀ {ds : List D} {ns : List Int}, intsD ds = some ns → ds = ns.map .int
  | [], _, e => by cases Option.some.inj e; rfl
  | .int i :: r, ns, e => by
    have e : (intsD r).map (i :: ·) = some ns := e
    cases h : intsD r with
    | none => rw [h] at e; cases e
    | some l =>
      rw [h] at e
      cases e
      rw [intsD_eq h]; rfl
  | .none :: _, _, e => by cases e
  | .bool _ :: _, _, e => by cases e
  | .str _ :: _, _, e => by cases e
  | .list _ :: _, _, e => by cases e
  | .tuple _ :: _, _, e => by cases e
  | .dict _ :: _, _, e => by cases e
theorem intsD_map : ∀ ns : List Int, intsD (ns.map .int) = some ns
  | [] => rfl
  | n :: r => by
    show (intsD (r.map .int)).map (n :: ·) = _
    rw [intsD_map r]; rfl
theorem boolsD_eq : ∀ {ds : List D} {ns : List Bool}, boolsD ds = some ns → ds = ns.map .bool
  | [], _, e => by cases Option.some.inj e; rfl
  | .bool i :: r, ns, e => by
    have e : (boolsD r).map (i :: ·) = some ns := e
    cases h : boolsD r with
    | none => rw [h] at e; cases e
    | some l =>
      rw [h] at e
      cases e
      rw [boolsD_eq h]; rfl
  | .none :: _, _, e => by cases e
  | .int _ :: _, _, e => by cases e
  | .str _ :: _, _, e => by cases e
  | .list _ :: _, _, e => by cases e
  | .tuple _ :: _, _, e => by cases e
  | .dict _ :: _, _, e => by cases e
theorem boolsD_map : ∀ ns : List Bool, boolsD (ns.map .bool) = some ns
  | [] => rfl
  | n :: r => by
    show (boolsD (r.map .bool)).map (n :: ·) = _
    rw [boolsD_map r]; rfl
def anyD : List D → Option D
  | [.list ds] => (boolsD ds).map fun bs => .bool (bs.any id)
  | _ => none
def allD : List D → Option D
  | [.list ds] => (boolsD ds).map fun bs => .bool (bs.all id)
  | _ => none
def sumD : List D → Option D
  | [.list ds] => (intsD ds).map fun ns => .int ns.sum
  | _ => none
theorem calls_any (hK : X.K = C.K) : CallS C (rAny X.K) anyD := fun vs ds d u Hb H Q e w rx q => by
  rw [hK]
  unfold anyD at e
  split at e
  · rename_i ds
    cases h : boolsD ds with
    | none => rw [h] at e; cases e
    | some bs =>
      rw [h] at e
      cases e
      have ed := boolsD_eq h
      subst ed
      obtain ⟨v, ev, r⟩ := rx.one
      obtain ⟨p, xs, ex, hx, rxs⟩ := r.list w
      have ex2 := rxs.map_bool
      subst ex2
      exact ⟨p, bs, by rw [ev, ex], SqL.of hx, q _ Hb H (Nxt.refl w) (.bl _)⟩
  · cases e
theorem calls_all (hK : X.K = C.K) : CallS C (rAll X.K) allD := fun vs ds d u Hb H Q e w rx q => by
  rw [hK]
  unfold allD at e
  split at e
  · rename_i ds
    cases h : boolsD ds with
    | none => rw [h] at e; cases e
    | some bs =>
      rw [h] at e
      cases e
      have ed := boolsD_eq h
      subst ed
      obtain ⟨v, ev, r⟩ := rx.one
      obtain ⟨p, xs, ex, hx, rxs⟩ := r.list w
      have ex2 := rxs.map_bool
      subst ex2
      exact ⟨p, bs, by rw [ev, ex], SqL.of hx, q _ Hb H (Nxt.refl w) (.bl _)⟩
  · cases e
theorem calls_sum (hK : X.K = C.K) : CallS C (rSum X.K) sumD := fun vs ds d u Hb H Q e w rx q => by
  rw [hK]
  unfold sumD at e
  split at e
  · rename_i ds
    cases h : intsD ds with
    | none => rw [h] at e; cases e
    | some bs =>
      rw [h] at e
      cases e
      have ed := intsD_eq h
      subst ed
      obtain ⟨v, ev, r⟩ := rx.one
      obtain ⟨p, xs, ex, hx, rxs⟩ := r.list w
      have ex2 := rxs.map_int
      subst ex2
      exact ⟨p, bs, by rw [ev, ex], SqL.of hx, q _ Hb H (Nxt.refl w) (.int _)⟩
  · cases e
/-- max, min of two -/
def max2D : List D → Option D
  | [.int i, .int j] => some (.int (if j > i then j else i))
  | _ => none
def min2D : List D → Option D
  | [.int i, .int j] => some (.int (if j < i then j else i))
  | _ => none
theorem calls_max2 : CallS C (fun xs H Q => ∃ i j, xs = [.int i, .int j] ∧ Q (.int (if j > i then j else i)) H) max2D := fun vs ds d u Hb H Q e w rx q => by
  unfold max2D at e
  split at e
  · cases e
    obtain ⟨v, v2, ev, r, r2⟩ := rx.two
    exact ⟨_, _, by rw [ev, r.int, r2.int], q _ Hb H (Nxt.refl w) (.int _)⟩
  · cases e
theorem calls_min2 : CallS C (fun xs H Q => ∃ i j, xs = [.int i, .int j] ∧ Q (.int (if j < i then j else i)) H) min2D := fun vs ds d u Hb H Q e w rx q => by
  unfold min2D at e
  split at e
  · cases e
    obtain ⟨v, v2, ev, r, r2⟩ := rx.two
    exact ⟨_, _, by rw [ev, r.int, r2.int], q _ Hb H (Nxt.refl w) (.int _)⟩
  · cases e
/-- max, min of a list -/
def maxOf : List Int → Int
  | [] => 0
  | [x] => x
  | x :: r => let m := maxOf r; if m > x then m else x
def minOf : List Int → Int
  | [] => 0
  | [x] => x
  | x :: r => let m := minOf r; if m < x then m else x
theorem maxOf_spec : ∀ (ns : List Int), ns ≠ [] → maxOf ns ∈ ns ∧ ∀ y ∈ ns, y ≤ maxOf ns
  | [], h => absurd rfl h
  | [x], _ => ⟨by simp [maxOf], fun y hy => by simp [maxOf] at hy ⊢; omega⟩
  | x :: y :: r, _ => by
    obtain ⟨h1, h2⟩ := maxOf_spec (y :: r) (by simp)
    show (if maxOf (y :: r) > x then maxOf (y :: r) else x) ∈ _ ∧ ∀ z ∈ _, z ≤ (if maxOf (y :: r) > x then maxOf (y :: r) else x)
    split
    · rename_i h
      refine ⟨List.mem_cons_of_mem _ h1, fun z hz => ?_⟩
      rcases List.mem_cons.mp hz with e | hz
      · omega
      · exact h2 z hz
    · rename_i h
      refine ⟨List.mem_cons_self, fun z hz => ?_⟩
      rcases List.mem_cons.mp hz with e | hz
      · omega
      · have := h2 z hz
        omega
theorem minOf_spec : ∀ (ns : List Int), ns ≠ [] → minOf ns ∈ ns ∧ ∀ y ∈ ns, minOf ns ≤ y
  | [], h => absurd rfl h
  | [x], _ => ⟨by simp [minOf], fun y hy => by simp [minOf] at hy ⊢; omega⟩
  | x :: y :: r, _ => by
    obtain ⟨h1, h2⟩ := minOf_spec (y :: r) (by simp)
    show (if minOf (y :: r) < x then minOf (y :: r) else x) ∈ _ ∧ ∀ z ∈ _, (if minOf (y :: r) < x then minOf (y :: r) else x) ≤ z
    split
    · rename_i h
      refine ⟨List.mem_cons_of_mem _ h1, fun z hz => ?_⟩
      rcases List.mem_cons.mp hz with e | hz
      · omega
      · exact h2 z hz
    · rename_i h
      refine ⟨List.mem_cons_self, fun z hz => ?_⟩
      rcases List.mem_cons.mp hz with e | hz
      · omega
      · have := h2 z hz
        omega
def maxD : List D → Option D
  | [.list ds] => (intsD ds).bind fun ns => if ns = [] then none else some (.int (maxOf ns))
  | _ => none
def minD : List D → Option D
  | [.list ds] => (intsD ds).bind fun ns => if ns = [] then none else some (.int (minOf ns))
  | _ => none
theorem calls_max (hK : X.K = C.K) : CallS C (rMax X.K) maxD := fun vs ds d u Hb H Q e w rx q => by
  rw [hK]
  unfold maxD at e
  split at e
  · rename_i ds
    cases h : intsD ds with
    | none => rw [h] at e; cases e
    | some bs =>
      rw [h] at e
      have e : (if bs = [] then none else some (PyData.int (maxOf bs))) = some d := e
      split at e
      · cases e
      · rename_i hne
        cases e
        have ed := intsD_eq h
        subst ed
        obtain ⟨v, ev, r⟩ := rx.one
        obtain ⟨p, xs, ex, hx, rxs⟩ := r.list w
        have ex2 := rxs.map_int
        subst ex2
        refine ⟨p, bs, by rw [ev, ex], SqL.of hx, by cases bs; exact absurd rfl hne; simp, fun m hm hle => ?_⟩
        obtain ⟨h1, h2⟩ := maxOf_spec bs hne
        have em : m = maxOf bs := Int.le_antisymm (h2 m hm) (hle _ h1)
        rw [em]
        exact q _ Hb H (Nxt.refl w) (.int _)
  · cases e
theorem calls_min (hK : X.K = C.K) : CallS C (rMin X.K) minD := fun vs ds d u Hb H Q e w rx q => by
  rw [hK]
  unfold minD at e
  split at e
  · rename_i ds
    cases h : intsD ds with
    | none => rw [h] at e; cases e
    | some bs =>
      rw [h] at e
      have e : (if bs = [] then none else some (PyData.int (minOf bs))) = some d := e
      split at e
      · cases e
      · rename_i hne
        cases e
        have ed := intsD_eq h
        subst ed
        obtain ⟨v, ev, r⟩ := rx.one
        obtain ⟨p, xs, ex, hx, rxs⟩ := r.list w
        have ex2 := rxs.map_int
        subst ex2
        refine ⟨p, bs, by rw [ev, ex], SqL.of hx, by cases bs; exact absurd rfl hne; simp, fun m hm hle => ?_⟩
        obtain ⟨h1, h2⟩ := minOf_spec bs hne
        have em : m = minOf bs := Int.le_antisymm (hle _ h1) (h2 m hm)
        rw [em]
        exact q _ Hb H (Nxt.refl w) (.int _)
  · cases e
/-- sorted, of ints -/
def ins (x : Int) : List Int → List Int
  | [] => [x]
  | y :: r => if x ≤ y then x :: y :: r else y :: ins x r
def isort : List Int → List Int
  | [] => []
  | x :: r => ins x (isort r)
theorem ins_perm (x : Int) : ∀ l : List Int, (ins x l).Perm (x :: l)
  | [] => List.Perm.refl _
  | y :: r => by
    unfold ins
    split
    · exact List.Perm.refl _
    · exact ((ins_perm x r).cons y).trans (List.Perm.swap x y r)
theorem isort_perm : ∀ l : List Int, (isort l).Perm l
  | [] => List.Perm.refl _
  | x :: r => (ins_perm x _).trans ((isort_perm r).cons x)
theorem ins_mem {x z : Int} : ∀ {l : List Int}, z ∈ ins x l → z = x ∨ z ∈ l := fun h => List.mem_cons.mp ((ins_perm x _).mem_iff.mp h)
theorem ins_sorted (x : Int) : ∀ l : List Int, l.Pairwise (· ≤ ·) → (ins x l).Pairwise (· ≤ ·)
  | [], _ => by simp [ins]
  | y :: r, h => by
    obtain ⟨h1, h2⟩ := List.pairwise_cons.mp h
    unfold ins
    split
    · rename_i hx
      exact List.pairwise_cons.mpr ⟨fun z hz => by
        rcases List.mem_cons.mp hz with e | hz
        · omega
        · have := h1 z hz; omega, h⟩
    · rename_i hx
      refine List.pairwise_cons.mpr ⟨fun z hz => ?_, ins_sorted x r h2⟩
      rcases ins_mem hz with e | hz
      · omega
      · exact h1 z hz
theorem isort_sorted : ∀ l : List Int, (isort l).Pairwise (· ≤ ·)
  | [] => List.Pairwise.nil
  | x :: r => ins_sorted x _ (isort_sorted r)
theorem sorted_unique : ∀ {l m : List Int}, l.Perm m → l.Pairwise (· ≤ ·) → m.Pairwise (· ≤ ·) → l = m
  | [], m, p, _, _ => (List.nil_perm.mp p).symm
  | x :: l, [], p, _, _ => absurd (List.perm_nil.mp p) (by simp)
  | x :: l, y :: m, p, h, g => by
    obtain ⟨h1, h2⟩ := List.pairwise_cons.mp h
    obtain ⟨g1, g2⟩ := List.pairwise_cons.mp g
    have hxy : x = y := by
      have a1 : x ∈ y :: m := p.mem_iff.mp List.mem_cons_self
      have a2 : y ∈ x :: l := p.mem_iff.mpr List.mem_cons_self
      rcases List.mem_cons.mp a1 with e | e
      · exact e
      · rcases List.mem_cons.mp a2 with e2 | e2
        · exact e2.symm
        · exact Int.le_antisymm (h1 y e2) (g1 x e)
    subst hxy
    rw [sorted_unique (List.Perm.cons_inv p) h2 g2]
def sortedD : List D → Option D
  | [.list ds] => (intsD ds).map fun ns => .list ((isort ns).map .int)
  | _ => none
theorem calls_sorted (hK : X.K = C.K) : CallN C (rSortedI X.K) sortedD := fun vs ds d u Hb H Q e w rx q => by
  rw [hK]
  unfold sortedD at e
  split at e
  · rename_i ds
    cases h : intsD ds with
    | none => rw [h] at e; cases e
    | some bs =>
      rw [h] at e
      cases e
      have ed := intsD_eq h
      subst ed
      obtain ⟨v, ev, r⟩ := rx.one
      obtain ⟨p, xs, ex, hx, rxs⟩ := r.list w
      have ex2 := rxs.map_int
      subst ex2
      refine ⟨p, bs, by rw [ev, ex], SqL.of hx, fun ns' l h1 h2 hl => ?_⟩
      have en : ns' = isort bs := sorted_unique (h1.trans (isort_perm bs).symm) h2 (isort_sorted bs)
      subst en
      exact q l _ hl (.lst (RpL.ints _))
  · cases e
/-- list(..), tuple(..) -/
def listD : List D → Option D
  | [.list ds] => some (.list ds)
  | [.tuple ds] => some (.list ds)
  | _ => none
def tupleD : List D → Option D
  | [.list ds] => some (.tuple ds)
  | [.tuple ds] => some (.tuple ds)
  | _ => none
theorem calls_list (hK : X.K = C.K) : CallN C (fun xs H Q => ∃ p ys, xs = [.ref p] ∧ (SqL X.K H p ys ∨ SqT X.K H p ys) ∧ ∀ l, H l = none → Q (.ref l) (upd H l (.lst ys))) listD := fun vs ds d u Hb H Q e w rx q => by
  rw [hK]
  unfold listD at e
  split at e
  · cases e
    obtain ⟨v, ev, r⟩ := rx.one
    obtain ⟨p, xs, ex, hx, rxs⟩ := r.list w
    exact ⟨p, xs, by rw [ev, ex], .inl (SqL.of hx), fun l hl => q l _ hl (.lst rxs)⟩
  · cases e
    obtain ⟨v, ev, r⟩ := rx.one
    obtain ⟨p, xs, ex, hx, rxs, _⟩ := r.tuple w
    exact ⟨p, xs, by rw [ev, ex], .inr (SqT.of hx), fun l hl => q l _ hl (.lst rxs)⟩
  · cases e
theorem calls_tuple (hK : X.K = C.K) : CallS C (fun xs H Q => ∃ p ys, xs = [.ref p] ∧ ((SqL X.K H p ys ∧ ∀ l, H l = none → Q (.ref l) (upd H l (.tup ys))) ∨ (SqT X.K H p ys ∧ Q (.ref p) H))) tupleD := fun vs ds d u Hb H Q e w rx q => by
  rw [hK]
  unfold tupleD at e
  split at e
  · cases e
    obtain ⟨v, ev, r⟩ := rx.one
    obtain ⟨p, xs, ex, hx, rxs⟩ := r.list w
    refine ⟨p, xs, by rw [ev, ex], .inl ⟨SqL.of hx, fun l hl => ?_⟩⟩
    have nx := Nxt.alloc (o := .tup xs) w hl
    exact q _ _ _ nx (.tup upd_same (rxs.mono nx.ext))
  · cases e
    obtain ⟨v, ev, r⟩ := rx.one
    obtain ⟨p, xs, ex, hx, rxs, rr⟩ := r.tuple w
    subst ex
    exact ⟨p, xs, ev, .inr ⟨SqT.of hx, q _ Hb H (Nxt.refl w) rr⟩⟩
  · cases e
/-- gcd -/
def gcdD : List D → Option D
  | [.int i, .int j] => some (.int (Nat.gcd i.natAbs j.natAbs : Nat))
  | _ => none
theorem calls_gcd : CallS C rGcd gcdD := fun vs ds d u Hb H Q e w rx q => by
  unfold gcdD at e
  split at e
  · cases e
    obtain ⟨v, v2, ev, r, r2⟩ := rx.two
    exact ⟨_, _, by rw [ev, r.int, r2.int], q _ Hb H (Nxt.refl w) (.int _)⟩
  · cases e
/-- dict of a list of pairs -/
def pairsD : List D → Option (List (D × D))
  | [] => some []
  | .tuple [k, v] :: r => if isKey k = true then (pairsD r).map ((k, v) :: ·) else none
  | _ => none
def mergeD (des more : List (D × D)) : List (D × D) := more.foldl (fun acc kv => putD acc kv.1 kv.2) des
def dictD : List D → Option D
  | [.list ds] => (pairsD ds).map fun ps => .dict (mergeD [] ps)
  | _ => none
theorem pairsD_cons {d : D} {r : List D} {ps : List (D × D)} (e : pairsD (d :: r) = some ps) : ∃ k v l, d = .tuple [k, v] ∧ isKey k = true ∧ pairsD r = some l ∧ ps = (k, v) :: l := by
  unfold pairsD at e
  split at e
  · rename_i hh; cases hh
  · rename_i k v r' hh
    injection hh with h1 h2
    subst h2
    split at e
    · rename_i f
      cases hp : pairsD r with
      | none => rw [hp] at e; cases e
      | some l =>
        rw [hp] at e
        cases e
        exact ⟨k, v, l, h1, f, rfl, rfl⟩
    · cases e
  · cases e
theorem pairs_rel {K : PySem.W.Frag} {Hb H : Hp} (s : Sub Hb H) : ∀ {vs : List V} {ds : List D} {ps : List (D × D)}, RpL K Hb vs ds → pairsD ds = some ps →
    ∃ (as : List Addr) (kvs : List (Key × V)), vs = as.map V.ref ∧ Paired (fun p kv => SqT K H p [kV kv.1, kv.2]) as kvs ∧ RpK K Hb (kvs.map fun p => (keyD p.1, p.2)) ps
  | _, _, _, .nil, e => by
    cases Option.some.inj e
    exact ⟨[], [], rfl, .nil, .nil⟩
  | _, _, _, .cons h r, e => by
    obtain ⟨k, v, l, rfl, f, hp, rfl⟩ := pairsD_cons e
    obtain ⟨as, kvs, e1, e2, e3⟩ := pairs_rel s r hp
    cases h with
    | tup ha hr =>
      rename_i a xs
      cases hr with
      | cons hk hr =>
        cases hr with
        | cons hv hr =>
          cases hr
          cases hk with
          | int i => exact ⟨a :: as, (.inl i, _) :: kvs, by rw [e1]; rfl, .cons (SqT.of (s.tupl ha)) e2, .cons hv e3⟩
          | str i => exact ⟨a :: as, (.inr i, _) :: kvs, by rw [e1]; rfl, .cons (SqT.of (s.tupl ha)) e2, .cons hv e3⟩
          | non => cases f
          | bl b => cases f
          | lst _ _ => cases f
          | tup _ _ => cases f
          | dic _ _ => cases f
          | dit _ _ => cases f
theorem merge_rel {K : PySem.W.Frag} {H : Hp} : ∀ (more : List (Key × V)) (dm : List (D × D)) (kvs : List (Key × V)) (des : List (D × D)), RpK K H (more.map fun p => (keyD p.1, p.2)) dm → RpK K H (kvs.map fun p => (keyD p.1, p.2)) des →
    RpK K H ((mergeK kvs more).map fun p => (keyD p.1, p.2)) (mergeD des dm)
  | [], _, kvs, des, .nil, h => h
  | (a, v) :: r, _, kvs, des, .cons (m := m) hv q, h => by
    have := merge_rel r m (putK kvs a v) (putD des (keyD a) _) q (put_rel keyD keq_key a hv kvs des h)
    exact this
theorem calls_dict (hK : X.K = C.K) : CallN C (fun xs H Q => ∃ (a : Addr) (ps : List Addr) (kvs : List (Key × V)), xs = [.ref a] ∧ SqL X.K H a (ps.map V.ref) ∧ Paired (fun p kv => SqT X.K H p [kV kv.1, kv.2]) ps kvs ∧
    ∀ p, H p = none → Q (.ref p) (upd H p (.dK (mergeK [] kvs)))) dictD := fun vs ds d u Hb H Q e w rx q => by
  rw [hK]
  unfold dictD at e
  split at e
  · rename_i ds
    cases h : pairsD ds with
    | none => rw [h] at e; cases e
    | some ps =>
      rw [h] at e
      cases e
      obtain ⟨v, ev, r⟩ := rx.one
      obtain ⟨p, xs, ex, hx, rxs⟩ := r.list w
      obtain ⟨as, kvs, e1, e2, e3⟩ := pairs_rel w.sub rxs h
      subst e1
      exact ⟨p, as, kvs, by rw [ev, ex], SqL.of hx, e2, fun l hl => q l _ hl (.dic (merge_rel kvs ps [] [] e3 .nil))⟩
  · cases e
/-- list(range(..)), tuple(range(..)) -/
def rgD (a b : Int) : List D := (List.range (b - a).toNat).map fun i => .int (a + (i : Nat))
theorem rg_rel {K : PySem.W.Frag} {H : Hp} (a b : Int) : RpL K H (rgV a b) (rgD a b) := by
  unfold rgV rgD
  generalize (b - a).toNat = n
  have : ∀ (l : List Nat), RpL K H (l.map fun i => V.int (a + (i : Nat))) (l.map fun i => PyData.int (a + (i : Nat))) := fun l => by
    induction l with
    | nil => exact .nil
    | cons x r ih => exact .cons (.int _) ih
  exact this _
structure XRg (X : Cx) (C : Ctx U) (e : Expr) (t : St → Hp → (Int → Int → Hp → Prop) → Prop) (f : EF U (Int × Int)) : Prop where
  pe : PRg X e t
  s : Sim C (fun _ _ _ _ (b c : Int × Int) => b = c) (fun σ H Q => t σ H fun a b H' => Q (a, b) H') f
variable {e a b c : Expr} {te ta tb tc : TE} {fe fa fb fc : EF U D} {pos p : Pos} {es : List Expr}
def fI {U : Type} (fe : EF U D) : EF U Int := fun env u => (fe env u).bind fun d u1 => match d with
  | .int i => .ok i u1
  | _ => .bad
theorem sim_I {fe : EF U D} {α β : Type} {Rep : Hp → U → Hp → Hp → β → α → Prop} (h : SimP C te fe) {Hr : Hp} {env : Env} {u : U} {σ : St} {Hb H : Hp} {Q : β → Hp → Prop} {f : Int → U → Rs U α} {Q2 : V → Hp → Prop} (rel : Rel C env u σ Hb H) (q : Post C Hr u Hb H σ ((fI fe env u).bind f) Rep Q)
    (k : ∀ i u1 Hb1 H1, Nxt C.hp u u1 Hb H Hb1 H1 → Post C Hr u1 Hb1 H1 σ (f i u1) Rep Q → Q2 (.int i) H1) : te σ H Q2 :=
  h env u σ Hb H _ rel (Post.bind (f := fun (d : D) u1 => match d with | .int i => f i u1 | _ => .bad) (by
    have e : (fI fe env u).bind f = (fe env u).bind (fun (d : D) u1 => match d with | .int i => f i u1 | _ => .bad) := by
      unfold fI
      rw [Rs.bind_assoc]
      congr 1
      funext d u1
      cases d <;> rfl
    rw [← e]
    exact q) fun d u1 v Hb1 H1 n r h1 => by
      cases d with
      | int i => rw [r.int]; exact k i u1 Hb1 H1 n h1
      | none => exact h1.elim
      | bool _ => exact h1.elim
      | str _ => exact h1.elim
      | list _ => exact h1.elim
      | tuple _ => exact h1.elim
      | dict _ => exact h1.elim)
def fRg1 {U : Type} (fe : EF U D) : EF U (Int × Int) := fun env u => (fI fe env u).bind fun n u1 => .ok (0, n) u1
def fRg2 {U : Type} (fa fb : EF U D) : EF U (Int × Int) := fun env u => (fI fa env u).bind fun i u1 => (fI fb env u1).bind fun j u2 => .ok (i, j) u2
theorem xrg1 (hg : Gl X "range") (hm : X.mg "range" = none) (ha : XP X C a ta fa) (na : starEach [a] X.env = (false, eval a X.env) :: starEach [] X.env := by rfl) : XRg X C (.Call (.Name "range" p) [a] [] pos) (tRg1 ta) (fRg1 fa) :=
  ⟨prg_1 hg hm ha.pe na, fun env u σ Hb H Q rel q => sim_I ha.s rel q fun i u1 Hb1 H1 n h1 => ⟨i, rfl, h1.okI n.wf rfl⟩⟩
theorem xrg2 (hg : Gl X "range") (hm : X.mg "range" = none) (ha : XP X C a ta fa) (hb : XP X C b tb fb) (na : starEach [a, b] X.env = (false, eval a X.env) :: starEach [b] X.env := by rfl)
    (nb : starEach [b] X.env = (false, eval b X.env) :: starEach [] X.env := by rfl) (hp : (backTo pos (starEach [b] X.env)).any (·.1) = false := by rfl) : XRg X C (.Call (.Name "range" p) [a, b] [] pos) (tRg2 ta tb) (fRg2 fa fb) :=
  ⟨prg_2 hg hm ha.pe hb.pe na nb hp, fun env u σ Hb H Q rel q => sim_I ha.s rel q fun i u1 Hb1 H1 n h1 => sim_I hb.s (rel.nxt n) h1 fun j u2 Hb2 H2 n2 h2 => ⟨i, j, rfl, rfl, h2.okI n2.wf rfl⟩⟩
def rgOk (p : Int × Int) : Bool := decide (-100000 ≤ p.1) && decide (p.1 ≤ 100000) && decide (-100000 ≤ p.2) && decide (p.2 ≤ 100000)
theorem rgOk_iff {p : Int × Int} (h : rgOk p = true) : RgOk p.1 p.2 := by
  unfold rgOk at h
  simp only [Bool.and_eq_true, decide_eq_true_eq] at h
  exact ⟨by omega, by omega, by omega, by omega, by omega⟩
def fLstRg {U : Type} (f : EF U (Int × Int)) : EF U D := fun env u => (f env u).bind fun p u1 => if rgOk p = true then .ok (.list (rgD p.1 p.2)) u1 else .bad
def fTupRg {U : Type} (f : EF U (Int × Int)) : EF U D := fun env u => (f env u).bind fun p u1 => if rgOk p = true then .ok (.tuple (rgD p.1 p.2)) u1 else .bad
theorem xn_lrg {t : St → Hp → (Int → Int → Hp → Prop) → Prop} {f : EF U (Int × Int)} (hc : X.calm = true) (hg : Gl X "list") (hm : X.mg "list" = none) (he : XRg X C e t f) (na : starEach [e] X.env = (false, eval e X.env) :: starEach [] X.env := by rfl) :
    XN X C (.Call (.Name "list" p) [e] [] pos) (tLstRg t) (fLstRg f) := ⟨pe_listRg hc hg hm he.pe na, fun env u σ Hb H Q rel q => by
  refine he.s env u σ Hb H (fun v H' => RgOk v.1 v.2 ∧ ∀ l, H' l = none → Q (.ref l) (upd H' l (.lst (rgV v.1 v.2)))) rel (Post.bind q fun x u1 v Hb1 H1 n r h1 => ?_)
  have r : v = x := r
  subst r
  by_cases ho : rgOk v = true
  · simp only [if_pos ho] at h1
    refine ⟨rgOk_iff ho, fun l hl => ?_⟩
    have f := n.wf.fresh hl
    exact h1 _ _ _ (Nxt.allocO n.wf hl) ⟨l, rfl, n.back hl, f.1, f.2, _, upd_same, .lst (rg_rel _ _)⟩
  · simp only [if_neg ho] at h1
    exact h1.elim⟩
theorem x_trg {t : St → Hp → (Int → Int → Hp → Prop) → Prop} {f : EF U (Int × Int)} (hc : X.calm = true) (hg : Gl X "tuple") (hm : X.mg "tuple" = none) (he : XRg X C e t f) (na : starEach [e] X.env = (false, eval e X.env) :: starEach [] X.env := by rfl) :
    XE X C (.Call (.Name "tuple" p) [e] [] pos) (tTupRg t) (fTupRg f) := ⟨pe_tupRg hc hg hm he.pe na, fun env u σ Hb H Q rel q => by
  refine he.s env u σ Hb H (fun v H' => RgOk v.1 v.2 ∧ ∀ l, H' l = none → Q (.ref l) (upd H' l (.tup (rgV v.1 v.2)))) rel (Post.bind q fun x u1 v Hb1 H1 n r h1 => ?_)
  have r : v = x := r
  subst r
  by_cases ho : rgOk v = true
  · simp only [if_pos ho] at h1
    refine ⟨rgOk_iff ho, fun l hl => ?_⟩
    have nx := Nxt.alloc (o := .tup (rgV v.1 v.2)) n.wf hl
    exact h1 _ _ _ nx (.tup upd_same (rg_rel _ _))
  · simp only [if_neg ho] at h1
    exact h1.elim⟩
/-- bit_length -/
def bitsD : D → Option D
  | .int i => some (.int (Builtin.Int.intBits i : Nat))
  | _ => none
theorem x_bits {apos : Pos} (ha : XP X C a ta fa) (hbase : attributeBase a "bit_length" X.env (eval a X.env) = eval a X.env := by rfl) (hline : (apos.endLine == pos.line) = true := by rfl) : XE X C (.Call (.Attribute a "bit_length" apos) [] [] pos) (tBits ta) (fUn bitsD fa) :=
  ⟨pe_bits ha.pe hbase hline, sim_un (r := fun x H1 Q => ∃ i, x = .int i ∧ Q (.int (Builtin.Int.intBits i : Nat)) H1) (fun x dx d H0 u Hb H Q e w rx q => by
    unfold bitsD at e
    split at e
    · cases e
      exact ⟨_, rx.int, q _ Hb H (Nxt.refl w) (.int _)⟩
    · cases e) ha.s⟩
end
end DL

namespace DL
open PySem L2
open Evl (Ex)

/-! ### statements: what they do to slots and world -/
inductive So (U : Type) where
  | nx (env : Env) (u : U)
  | rt (d : D) (u : U)
  | bk (env : Env) (u : U)
  | ct (env : Env) (u : U)
  | ex (e : Exn) (env : Env) (u : U)
  | bad
abbrev SF (U : Type) := Env → U → So U
/-- the def's entry -/
structure Ent (U : Type) where
  u0 : U
  Hb0 : Hp
  H0 : Hp
  /-- what stays in the base -/
  Bk : Hp
section
variable {U : Type} (C : Ctx U)
/-- a container of one's own is named -/
def Uses (env : Env) (σ : St) (p : Addr) : Prop := ∃ (i : Nat) (d : D), env[i]? = some (.own d) ∧ σ[i]? = some (some (.ref p))
structure RelS (E : Ent U) (env : Env) (u : U) (σ : St) (Hb H : Hp) : Prop where
  rel : Rel C env u σ Hb H
  nxt : Nxt C.hp E.u0 u E.Hb0 E.H0 Hb H
  new : ∀ p, Uses env σ p → E.H0 p = none
  kb : Ex E.Bk Hb
def PostS (E : Ent U) (r : So U) (Z : Ends) : Prop :=
  match r with
  | .nx env u => ∀ σ Hb H, RelS C E env u σ Hb H → Z.nx σ H
  | .bk env u => ∀ σ Hb H, RelS C E env u σ Hb H → Z.bk σ H
  | .ct env u => ∀ σ Hb H, RelS C E env u σ Hb H → Z.ct σ H
  | .rt d u => ∀ v Hb H, Nxt C.hp E.u0 u E.Hb0 E.H0 Hb H → Rp C.K Hb v d → Z.rt v H
  | .ex e env u => ∀ cls dx σ Hb H, RelS C E env u σ Hb H → C.xr e cls dx Hb H → C.W cls dx σ H
  | .bad => False
def SimS (t : TS) (f : SF U) : Prop := ∀ E env u σ Hb H Z, RelS C E env u σ Hb H → PostS C E (f env u) Z → t Z σ H
end
def So.after {U α : Type} (r : Rs U α) (env : Env) (f : α → U → So U) : So U := match r with
  | .ok a u => f a u
  | .ex e u => .ex e env u
  | .bad => .bad
section
variable {U : Type} {C : Ctx U} {E : Ent U} {env : Env} {u u1 : U} {σ : St} {Hb H Hb1 H1 : Hp} {Z : Ends}
theorem RelS.next (r : RelS C E env u σ Hb H) (n : Nxt C.hp u u1 Hb H Hb1 H1) : RelS C E env u1 σ Hb1 H1 := ⟨r.rel.nxt n, r.nxt.trans n, r.new, r.kb.trans n.ext⟩
/-- an expression, then the rest -/
theorem PostS.bind {α β : Type} {r : Rs U α} {f : α → U → So U} {Rep : Hp → U → Hp → Hp → β → α → Prop} {Q2 : β → Hp → Prop} (rel : RelS C E env u σ Hb H) (h : PostS C E (So.after r env f) Z)
    (k : ∀ a u1 v Hb1 H1, Nxt C.hp u u1 Hb H Hb1 H1 → Rep H u1 Hb1 H1 v a → RelS C E env u1 σ Hb1 H1 → PostS C E (f a u1) Z → Q2 v H1) : Post C H u Hb H σ r Rep Q2 := by
  cases r with
  | bad => exact h
  | ok a u1 => exact fun v Hb1 H1 n q => k a u1 v Hb1 H1 n q (rel.next n) h
  | ex e u1 => exact fun cls dx Hb1 H1 n x => h cls dx σ Hb1 H1 (rel.next n) x
/-! storing into a slot -/
theorem set_get {α : Type} {l : List α} {i j : Nat} {a x : α} (h : (l.set i a)[j]? = some x) : (i = j ∧ x = a ∧ i < l.length) ∨ (i ≠ j ∧ l[j]? = some x) := by
  by_cases e : i = j
  · subst e
    by_cases hl : i < l.length
    · rw [List.getElem?_set_self hl] at h
      cases h
      exact .inl ⟨rfl, rfl, hl⟩
    · rw [List.getElem?_eq_none (by rw [List.length_set]; omega)] at h
      cases h
  · rw [List.getElem?_set_ne e] at h
    exact .inr ⟨e, h⟩
theorem uses_set {i : Nat} {s : Slot} {v : V} {p : Addr} (hl : σ.length = env.length) (h : Uses (env.set i s) (σ.set i (some v)) p) : Uses env σ p ∨ (v = .ref p ∧ ∃ d, s = .own d) := by
  obtain ⟨j, d, h1, h2⟩ := h
  rcases set_get h1 with ⟨e, e2, hi⟩ | ⟨e, h1'⟩
  · subst e
    rw [List.getElem?_set_self (by omega)] at h2
    cases h2
    exact .inr ⟨rfl, d, e2.symm⟩
  · rw [List.getElem?_set_ne e] at h2
    exact .inl ⟨j, d, h1', h2⟩
theorem RelS.setV {i : Nat} {v : V} {d : D} (r : RelS C E env u σ Hb H) (h : Rp C.K Hb v d) : RelS C E (env.set i (.val d)) u (σ.set i (some v)) Hb H := by
  have hl := r.rel.len
  refine ⟨⟨r.rel.wf, by rw [List.length_set, List.length_set, hl], fun j s hs => ?_, fun j k d1 d2 p h1 h2 h3 h4 => ?_⟩, r.nxt, fun p hp => ?_, r.kb⟩
  · rcases set_get hs with ⟨e, e2, hi⟩ | ⟨e, hs'⟩
    · subst e
      subst e2
      rw [List.getElem?_set_self (by omega)]
      exact ⟨v, rfl, h⟩
    · rw [List.getElem?_set_ne e]
      exact r.rel.slot j s hs'
  · rcases set_get h1 with ⟨_, e2, _⟩ | ⟨e, h1'⟩
    · cases e2
    · rcases set_get h2 with ⟨_, e2, _⟩ | ⟨e', h2'⟩
      · cases e2
      · rw [List.getElem?_set_ne e] at h3
        rw [List.getElem?_set_ne e'] at h4
        exact r.rel.dist j k d1 d2 p h1' h2' h3 h4
  · rcases uses_set hl hp with hp | ⟨_, d', e⟩
    · exact r.new p hp
    · cases e
theorem RelS.setO {i : Nat} {p : Addr} {d : D} (r : RelS C E env u σ Hb H) (h : OwnAt C u Hb H p d) (hn : E.H0 p = none) (hu : ¬ Uses env σ p) : RelS C E (env.set i (.own d)) u (σ.set i (some (.ref p))) Hb H := by
  have hl := r.rel.len
  refine ⟨⟨r.rel.wf, by rw [List.length_set, List.length_set, hl], fun j s hs => ?_, fun j k d1 d2 q h1 h2 h3 h4 => ?_⟩, r.nxt, fun q hq => ?_, r.kb⟩
  · rcases set_get hs with ⟨e, e2, hi⟩ | ⟨e, hs'⟩
    · subst e
      subst e2
      rw [List.getElem?_set_self (by omega)]
      exact ⟨p, rfl, h⟩
    · rw [List.getElem?_set_ne e]
      exact r.rel.slot j s hs'
  · rcases set_get h1 with ⟨e, e2, hi⟩ | ⟨e, h1'⟩
    · subst e
      rw [List.getElem?_set_self (by omega)] at h3
      cases h3
      rcases set_get h2 with ⟨e', _, _⟩ | ⟨e', h2'⟩
      · exact e'
      · rw [List.getElem?_set_ne e'] at h4
        exact absurd ⟨k, d2, h2', h4⟩ hu
    · rw [List.getElem?_set_ne e] at h3
      rcases set_get h2 with ⟨e', _, hi⟩ | ⟨e', h2'⟩
      · subst e'
        rw [List.getElem?_set_self (by omega)] at h4
        cases h4
        exact absurd ⟨j, d1, h1', h3⟩ hu
      · rw [List.getElem?_set_ne e'] at h4
        exact r.rel.dist j k d1 d2 q h1' h2' h3 h4
  · rcases uses_set hl hq with hq | ⟨e, _⟩
    · exact r.new q hq
    · cases e
      exact hn
/-- what is named stands in the heap -/
theorem Rel.used (r : Rel C env u σ Hb H) {p : Addr} (h : Uses env σ p) : H p ≠ none := by
  obtain ⟨i, d, h1, h2⟩ := h
  obtain ⟨q, e, o⟩ := r.slot i _ h1
  rw [h2] at e
  have e : some (V.ref p) = some (V.ref q) := e
  cases e
  obtain ⟨ob, ho, _⟩ := o.at_
  rw [ho]
  exact fun z => nomatch z
theorem join_some {i : Nat} {v : V} (h : σ[i]?.join = some v) : σ[i]? = some (some v) := by
  cases hs : σ[i]? with
  | none => rw [hs] at h; cases h
  | some o => rw [hs] at h; exact congrArg some h
/-- a container of one's own changes -/
theorem RelS.write {i : Nat} {p : Addr} {d d' : D} {o : HO} (r : RelS C E env u σ Hb H) (he : env[i]? = some (.own d)) (hp : σ[i]? = some (some (.ref p))) (ho : OwnRp C.K Hb o d') : RelS C E (env.set i (.own d')) u σ Hb (upd H p o) := by
  have hl := r.rel.len
  have hi : i < env.length := (List.getElem?_eq_some_iff.mp he).1
  have hn : E.H0 p = none := r.new p ⟨i, d, he, hp⟩
  obtain ⟨q, e, ow⟩ := r.rel.slot i _ he
  rw [hp] at e
  have e : some (V.ref p) = some (V.ref q) := e
  cases e
  obtain ⟨ob, hob, _⟩ := ow.at_
  have w := r.rel.wf
  have x0 : Nxt C.hp E.u0 u E.Hb0 E.H0 Hb (upd H p o) := by
    refine ⟨r.nxt.ext, fun a x h => ?_, r.nxt.new, fun a x h h2 => ?_, fun a h => ?_, fun a x h => ?_, r.nxt.dom, r.nxt.sep⟩
    · have na : a ≠ p := fun z => by rw [z, ow.nb] at h; cases h
      rw [upd_ne na]
      exact r.nxt.sub a x h
    · rw [upd_ne (fun z => by rw [z, hn] at h; cases h)]
      exact r.nxt.keep a x h h2
    · by_cases z : a = p
      · rw [z, upd_same]; exact fun z => nomatch z
      · rw [upd_ne z]; exact r.nxt.there a h
    · rw [upd_ne (fun z => by rw [z, ow.nw] at h; cases h)]
      exact w.wld a x h
  have own2 : ∀ q d1, OwnAt C u Hb H q d1 → q ≠ p → OwnAt C u Hb (upd H p o) q d1 := fun q d1 z ne => by
    obtain ⟨nb, nw, ob', h1, h2⟩ := z
    exact ⟨nb, nw, ob', by rw [upd_ne ne]; exact h1, h2⟩
  refine ⟨⟨⟨x0.sub, x0.wld, x0.sep⟩, by rw [List.length_set, hl], fun j s hs => ?_, fun j k d1 d2 q h1 h2 h3 h4 => ?_⟩, x0, fun q hq => ?_, r.kb⟩
  · rcases set_get hs with ⟨e, e2, _⟩ | ⟨nij, hs'⟩
    · subst e
      subst e2
      refine ⟨p, by rw [hp]; rfl, ow.nb, ow.nw, o, upd_same, ho⟩
    · have q := r.rel.slot j s hs'
      cases s with
      | non => trivial
      | val d => exact q
      | own d1 =>
        obtain ⟨q', e', ow'⟩ := q
        refine ⟨q', e', own2 q' d1 ow' fun z => ?_⟩
        subst z
        exact nij (r.rel.dist i j d d1 _ he hs' hp (join_some e'))
      | tok => exact q
  · have f : ∀ (k : Nat) (d1 : D), (env.set i (Slot.own d'))[k]? = some (Slot.own d1) → ∃ d3 : D, env[k]? = some (Slot.own d3) := fun k d1 h => by
      rcases set_get h with ⟨e, _, _⟩ | ⟨_, h⟩
      · subst e; exact ⟨d, he⟩
      · exact ⟨d1, h⟩
    obtain ⟨d3, h5⟩ := f j d1 h1
    obtain ⟨d4, h6⟩ := f k d2 h2
    exact r.rel.dist j k d3 d4 q h5 h6 h3 h4
  · obtain ⟨j, d1, h1, h2⟩ := hq
    rcases set_get h1 with ⟨e, _, _⟩ | ⟨_, h1'⟩
    · subst e
      exact r.new q ⟨i, d, he, h2⟩
    · exact r.new q ⟨j, d1, h1', h2⟩
/-- a container of one's own goes into the base -/
theorem RelS.freeze {i : Nat} {d : D} (r : RelS C E env u σ Hb H) (he : env[i]? = some (.own d)) : ∃ Hb', RelS C E (env.set i (.val d)) u σ Hb' H := by
  have hl := r.rel.len
  have hi : i < env.length := (List.getElem?_eq_some_iff.mp he).1
  obtain ⟨p, e, ow⟩ := r.rel.slot i _ he
  have hp := join_some e
  have hn : E.H0 p = none := r.new p ⟨i, d, he, hp⟩
  obtain ⟨o, ho, hr⟩ := ow.at_
  have hext : Ex Hb (upd Hb p o) := Ex.new ow.nb
  have w := r.rel.wf
  have x0 : Nxt C.hp E.u0 u E.Hb0 E.H0 (upd Hb p o) H := by
    refine ⟨r.nxt.ext.trans hext, fun a x h => ?_, fun a h h2 => ?_, r.nxt.keep, r.nxt.there, w.wld, r.nxt.dom, fun a h => ?_⟩
    · by_cases z : a = p
      · subst z
        rw [upd_same] at h
        cases h
        exact .inl ho
      · rw [upd_ne z] at h
        exact w.sub a x h
    · rw [upd_ne (fun z => by rw [z] at h; exact h hn)]
      exact r.nxt.new a h h2
    · rw [upd_ne (fun z => by rw [z] at h; exact h ow.nw)]
      exact w.sep a h
  refine ⟨upd Hb p o, ⟨⟨x0.sub, x0.wld, x0.sep⟩, by rw [List.length_set, hl], fun j s hs => ?_, fun j k d1 d2 q h1 h2 h3 h4 => ?_⟩, x0, fun q hq => ?_, r.kb.trans hext⟩
  · rcases set_get hs with ⟨e, e2, _⟩ | ⟨nij, hs'⟩
    · subst e
      subst e2
      refine ⟨.ref p, by rw [hp]; rfl, ?_⟩
      cases hr with
      | lst r => exact .lst upd_same (r.mono hext)
      | dic r => exact .dic upd_same (r.mono hext)
      | dit r => exact .dit upd_same (r.mono hext)
    · have q := r.rel.slot j s hs'
      cases s with
      | non => trivial
      | val d1 =>
        obtain ⟨v, ev, rv⟩ := q
        exact ⟨v, ev, rv.mono hext⟩
      | own d1 =>
        obtain ⟨q', e', ow'⟩ := q
        have ne : q' ≠ p := fun z => by
          subst z
          exact nij (r.rel.dist i j d d1 _ he hs' hp (join_some e'))
        obtain ⟨nb, nw, ob', h1, h2⟩ := ow'
        exact ⟨q', e', by rw [upd_ne ne]; exact nb, nw, ob', h1, h2.mono hext⟩
      | tok => exact q
  · rcases set_get h1 with ⟨_, e2, _⟩ | ⟨_, h1'⟩
    · cases e2
    · rcases set_get h2 with ⟨_, e2, _⟩ | ⟨_, h2'⟩
      · cases e2
      · exact r.rel.dist j k d1 d2 q h1' h2' h3 h4
  · obtain ⟨j, d1, h1, h2⟩ := hq
    rcases set_get h1 with ⟨_, e2, _⟩ | ⟨_, h1'⟩
    · cases e2
    · exact r.new q ⟨j, d1, h1', h2⟩
end

/-! ### the statements -/
section
variable {U : Type} (X : Cx) (C : Ctx U)
structure XS (st : Stmt) (t : TS) (f : SF U) : Prop where
  ps : PS X st t
  s : SimS C t f
structure XSs (sts : List Stmt) (t : TS) (f : SF U) : Prop where
  ps : PSs X sts t
  s : SimS C t f
end
def fNext {U : Type} : SF U := fun env u => .nx env u
def fSeq {U : Type} (f g : SF U) : SF U := fun env u => match f env u with
  | .nx env1 u1 => g env1 u1
  | .rt d u1 => .rt d u1
  | .bk env1 u1 => .bk env1 u1
  | .ct env1 u1 => .ct env1 u1
  | .ex e env1 u1 => .ex e env1 u1
  | .bad => .bad
/-- ahead of a statement: slot i's container goes into the base -/
def fFrz {U : Type} (i : Nat) (f : SF U) : SF U := fun env u => match env[i]? with
  | some (.own d) => f (env.set i (.val d)) u
  | _ => f env u
def fAsg {U : Type} (i : Nat) (fe : EF U D) : SF U := fun env u => So.after (fe env u) env fun d u1 => .nx (env.set i (.val d)) u1
def fAsgO {U : Type} (i : Nat) (fe : EF U D) : SF U := fun env u => So.after (fe env u) env fun d u1 => .nx (env.set i (.own d)) u1
def fRet {U : Type} (fe : EF U D) : SF U := fun env u => So.after (fe env u) env fun d u1 => .rt d u1
def fRetN {U : Type} : SF U := fun _ u => .rt .none u
def fDrop {U : Type} (fe : EF U D) : SF U := fun env u => So.after (fe env u) env fun _ u1 => .nx env u1
def fIfS {U : Type} (ft : EF U Bool) (f g : SF U) : SF U := fun env u => So.after (ft env u) env fun b u1 => if b = true then f env u1 else g env u1
def fBad {U : Type} : SF U := fun _ _ => .bad
section
variable {U : Type} {X : Cx} {C : Ctx U} {st : Stmt} {sts rest : List Stmt} {t t1 t2 : TS} {f f1 f2 : SF U} {e a b c : Expr} {te ta tb tc : TE} {fe fa fb fc : EF U D} {tt : TT} {ft : EF U Bool} {pos : Pos}
theorem sim_seq (h1 : SimS C t1 f1) (h2 : SimS C t2 f2) : SimS C (tSeq t1 t2) (fSeq f1 f2) := fun E env u σ Hb H Z rel q => by
  refine h1 E env u σ Hb H _ rel ?_
  unfold fSeq at q
  cases hf : f1 env u with
  | nx env1 u1 =>
    rw [hf] at q
    exact fun σ' Hb' H' r => h2 E env1 u1 σ' Hb' H' Z r q
  | rt d u1 => rw [hf] at q; exact q
  | bk env1 u1 => rw [hf] at q; exact q
  | ct env1 u1 => rw [hf] at q; exact q
  | ex e env1 u1 => rw [hf] at q; exact q
  | bad => rw [hf] at q; exact q
theorem sim_next : SimS C tNext fNext := fun E env u σ Hb H Z rel q => q σ Hb H rel
theorem ss_nil : XSs X C [] tNext fNext := ⟨pss_nil, sim_next⟩
theorem ss_cons (h1 : XS X C st t1 f1) (h2 : XSs X C rest t2 f2) : XSs X C (st :: rest) (tSeq t1 t2) (fSeq f1 f2) := ⟨pss_cons h1.ps h2.ps, sim_seq h1.s h2.s⟩
theorem ss_one (h1 : XS X C st t1 f1) : XSs X C [st] t1 f1 := ⟨pss_one h1.ps, h1.s⟩
theorem sim_frz {i : Nat} (h : SimS C t f) : SimS C t (fFrz i f) := fun E env u σ Hb H Z rel q => by
  unfold fFrz at q
  split at q
  · rename_i d he
    obtain ⟨Hb', r⟩ := rel.freeze he
    exact h E _ u σ Hb' H Z r q
  · exact h E env u σ Hb H Z rel q
theorem s_frz (i : Nat) (h : XS X C st t f) : XS X C st t (fFrz i f) := ⟨h.ps, sim_frz h.s⟩
theorem ss_frz (i : Nat) (h : XSs X C sts t f) : XSs X C sts t (fFrz i f) := ⟨h.ps, sim_frz h.s⟩
theorem sim_asg {i : Nat} (h : SimE C te fe) : SimS C (tAsg te (gName i)) (fAsg i fe) := fun E env u σ Hb H Z rel q =>
  h env u σ Hb H _ rel.rel (PostS.bind rel q fun d u1 v Hb1 H1 n r rel1 q1 => q1 _ _ _ (rel1.setV r))
theorem sim_asgO {i : Nat} (h : SimN C te fe) : SimS C (tAsg te (gName i)) (fAsgO i fe) := fun E env u σ Hb H Z rel q =>
  h env u σ Hb H _ rel.rel (PostS.bind rel q fun d u1 v Hb1 H1 n r rel1 q1 => by
    obtain ⟨p, ev, hp, ow⟩ := r
    subst ev
    refine q1 _ _ _ (rel1.setO ow ?_ fun z => absurd hp (rel.rel.used z))
    cases hq : E.H0 p with
    | none => rfl
    | some x => exact absurd hp (rel.nxt.there p (by rw [hq]; exact fun z => nomatch z)))
theorem s_set (i : Nat) {x : Str} {pos' : Pos} (hN : X.N.Nodup) (h : XE X C e te fe) (hi : X.N[i]? = some x := by rfl) (hx : Loc X.env.scope x := by first | exact Or.inl rfl | exact Or.inr rfl) (hs : swapsWith e (some (.Name x pos')) pos.line X.env = pure false := by rfl)
    (hf : X.fn x = true ∨ X.env.scope.names.lookup x = some .local := by first | exact .inl rfl | exact .inr rfl) : XS X C (.Assign [.Name x pos'] e pos) (tAsg te (gName i)) (fAsg i fe) := ⟨ps_set hN hi hx h.pe hs hf, sim_asg h.s⟩
theorem s_setO (i : Nat) {x : Str} {pos' : Pos} (hN : X.N.Nodup) (h : XN X C e te fe) (hi : X.N[i]? = some x := by rfl) (hx : Loc X.env.scope x := by first | exact Or.inl rfl | exact Or.inr rfl) (hs : swapsWith e (some (.Name x pos')) pos.line X.env = pure false := by rfl)
    (hf : X.fn x = true ∨ X.env.scope.names.lookup x = some .local := by first | exact .inl rfl | exact .inr rfl) : XS X C (.Assign [.Name x pos'] e pos) (tAsg te (gName i)) (fAsgO i fe) := ⟨ps_set hN hi hx h.pe hs hf, sim_asgO h.s⟩
theorem s_ret (h : XE X C e te fe) : XS X C (.Return (some e) pos) (tRet te) (fRet fe) := ⟨ps_ret h.pe, fun E env u σ Hb H Z rel q =>
  h.s env u σ Hb H _ rel.rel (PostS.bind rel q fun d u1 v Hb1 H1 n r rel1 q1 => q1 _ _ _ rel1.nxt r)⟩
theorem s_retN : XS X C (.Return none pos) tRetN fRetN := ⟨ps_retN, fun E env u σ Hb H Z rel q => q _ _ _ rel.nxt .non⟩
theorem s_expr (h : XE X C e te fe) (hs : swapsWith e none pos.line X.env = pure false := by rfl) : XS X C (.Expr e pos) (tDrop te) (fDrop fe) := ⟨ps_expr h.pe hs, fun E env u σ Hb H Z rel q =>
  h.s env u σ Hb H _ rel.rel (PostS.bind rel q fun d u1 v Hb1 H1 n r rel1 q1 => q1 _ _ _ rel1)⟩
theorem sim_ifS (h : SimT C tt ft) (h1 : SimS C t1 f1) (h2 : SimS C t2 f2) : SimS C (tIfS tt t1 t2) (fIfS ft f1 f2) := fun E env u σ Hb H Z rel q =>
  h env u σ Hb H _ rel.rel (PostS.bind rel q fun b u1 v Hb1 H1 n r rel1 q1 => by
    have r : v = b := r
    subst r
    cases v with
    | true => exact h1 E env u1 σ Hb1 H1 Z rel1 q1
    | false => exact h2 E env u1 σ Hb1 H1 Z rel1 q1)
theorem s_if {xs ys : List Stmt} (hc : XT X C c tt ft) (ha : XSs X C xs t1 f1) (hb : XSs X C ys t2 f2) : XS X C (.If c xs ys pos) (tIfS tt t1 t2) (fIfS ft f1 f2) := ⟨ps_if hc.pe ha.ps hb.ps, sim_ifS hc.s ha.s hb.s⟩
theorem s_never : XS X C st tNever fBad := ⟨ps_never, fun E env u σ Hb H Z rel q => q.elim⟩
theorem s_pass : XS X C (.Pass pos) tNext fNext := ⟨ps_pass, sim_next⟩
def fBrk {U : Type} : SF U := fun env u => .bk env u
def fCont {U : Type} : SF U := fun env u => .ct env u
theorem s_break : XS X C (.Break pos) tBreak fBrk := ⟨ps_break, fun E env u σ Hb H Z rel q => q σ Hb H rel⟩
theorem s_cont : XS X C (.Continue pos) tCont fCont := ⟨ps_continue, fun E env u σ Hb H Z rel q => q σ Hb H rel⟩
end
end DL

namespace DL
open PySem L2
open Evl (Ex)

/-! ### d.update(another dict) -/
def rUpdate : V → List V → Hp → VK → Prop := fun x vs H Q => ∃ (d o : Addr) (kvs more : List (Key × V)), x = .ref d ∧ vs = [.ref o] ∧ H d = some (.dK kvs) ∧ H o = some (.dK more) ∧ d ≠ o ∧ kvs.length + more.length ≤ sizeLine ∧ Q .non (upd H d (.dK (mergeK kvs more)))
theorem mt_update {X : Cx} : MtR X "dict.update" rUpdate := fun pins s σ H x xs v us Q I rx rv h => by
  obtain ⟨d, o, kvs, more, rfl, rfl, hd, ho, hne, hz, q⟩ := h
  cases rx
  obtain ⟨u, rfl, ru⟩ := rv.one
  cases ru
  obtain ⟨z1, ns1, vs, r1, h1⟩ := (show ObjOk X.prog X.w H s.heap d (.dK kvs) from I.hok d _ hd)
  obtain ⟨z2, ns2, ws, r2, h2⟩ := (show ObjOk X.prog X.w H s.heap o (.dK more) from I.hok o _ ho)
  refine call_meetsIn F.slot_dict_update h1.typeIs F.entry_dict_update (F.args_dict_update_2 _ _) (meets_dict_update (mixKind X.prog X.w) d o hne ns2) ⟨vs, ws, h1, h2, by rw [← KV.length r1, ← KV.length r2]; exact hz, fun h' hd' ho' sb => ?_⟩
  have hl : (mergeK kvs more).length ≤ sizeLine := Nat.le_trans (length_mergeK more kvs) hz
  obtain ⟨ob, _, _, hob, _⟩ := id hd'
  exact ⟨.non, upd H d (.dK (mergeK kvs more)), I.write (t' := s.toks) (x := d) (e := d) (by rw [hd]; trivial) (.inl rfl) (fun b u hb e => (sb.2 b hb).trans e) ⟨ob, hob⟩ ⟨hl, ns1, merged vs ws, KV.merge r2 r1, hd'⟩, rfl, q⟩

section
variable {U : Type} {X : Cx} {C : Ctx U} {st : Stmt} {sts rest : List Stmt} {t t1 t2 : TS} {f f1 f2 : SF U} {e a b c : Expr} {te ta tb tc : TE} {fe fa fb fc : EF U D} {tt : TT} {ft : EF U Bool} {pos : Pos} {es : List Expr} {tas : TA}
variable {E : Ent U} {env : Env} {u u1 : U} {σ : St} {Hb H Hb1 H1 : Hp} {Z : Ends}
/-! ### containers of one's own change -/
/-- slot i as it stands -/
theorem RelS.own {i : Nat} {d : D} (r : RelS C E env u σ Hb H) (he : env[i]? = some (.own d)) : ∃ p o, σ[i]? = some (some (.ref p)) ∧ H p = some o ∧ OwnRp C.K Hb o d ∧ Hb p = none := by
  obtain ⟨p, e, ow⟩ := r.rel.slot i _ he
  obtain ⟨o, ho, hr⟩ := ow.at_
  exact ⟨p, o, join_some e, ho, hr, ow.nb⟩
def fApp {U : Type} (i : Nat) (fe : EF U D) : SF U := fun env u => match env[i]? with
  | some (.own (.list ds)) => So.after (fe env u) env fun d u1 => if ds.length < line100 then .nx (env.set i (.own (.list (ds ++ [d])))) u1 else .bad
  | _ => .bad
theorem sim_app (hK : X.K = C.K) {i : Nat} (h : SimE C te fe) : SimS C (tDrop (tBM X.K "list" rAppend (tVar i) (tCons te tNil))) (fApp i fe) := fun E env u σ Hb H Z rel q => by
  rw [hK]
  unfold fApp at q
  split at q
  · rename_i ds he
    obtain ⟨p, o, hp, ho, hr, nb⟩ := rel.own he
    cases hr with
    | lst rx =>
      rename_i xs
      refine ⟨.ref p, hp, .inl ⟨rfl, xs, SqL.of ho⟩, h env u σ Hb H _ rel.rel (PostS.bind rel q fun d u1 v Hb1 H1 n r rel1 q1 => ?_)⟩
      split at q1
      · rename_i hz
        obtain ⟨p1, o1, hp1, ho1, hr1, nb1⟩ := rel1.own he
        rw [hp] at hp1
        cases hp1
        cases hr1 with
        | lst rx1 =>
          rename_i xs1
          exact ⟨p, xs1, v, rfl, rfl, ho1, line_lt (by rw [rx1.length]; exact hz), q1 _ _ _ (rel1.write he hp (.lst (rx1.append (RpL.one r))))⟩
      · exact q1.elim
  · exact q.elim
theorem s_app (hK : X.K = C.K) (i : Nat) {x : Str} {px apos cpos : Pos} (h : XE X C e te fe) (hN : X.N[i]? = some x := by rfl) (hv : Vis X.env.scope x := by first | exact Or.inl rfl | exact Or.inr (Or.inl rfl) | exact Or.inr (Or.inr rfl)) (hd : (x == ("__debug__" : Str)) = false := by decide)
    (hcd : (x == ("__classdict__" : Str)) = false := by decide) (hbase : attributeBase (.Name x px) "append" X.env (eval (.Name x px) X.env) = eval (.Name x px) X.env := by rfl)
    (hfew : ((backTo cpos (starEach [e] X.env)).all (fun x => !x.1) && (backToKw cpos (keywordEach [] X.env)).all (fun x => x.1.isSome) && decide ([e].length + ([] : List Keyword).length + (if ([] : List Keyword).isEmpty then 0 else 1) < 30)) = true := by rfl)
    (hline : (apos.endLine == cpos.line) = true := by rfl) (hs : starEach [e] X.env = (false, eval e X.env) :: starEach [] X.env := by rfl) (hplain : (backTo cpos (starEach [] X.env)).any (·.1) = false := by rfl)
    (hs2 : swapsWith (.Call (.Attribute (.Name x px) "append" apos) [e] [] cpos) none pos.line X.env = pure false := by rfl) :
    XS X C (.Expr (.Call (.Attribute (.Name x px) "append" apos) [e] [] cpos) pos) (tDrop (tBM X.K "list" rAppend (tVar i) (tCons te tNil))) (fApp i fe) :=
  ⟨ps_expr (pe_bm F.plainAttrs_list F.slot_list_append F.type_list_append mt_append (pe_var hN hv hd hcd) (pa_cons h.pe pa_nil hs) hbase hfew hline hs hplain) hs2, sim_app hK h.s⟩
/-- x.extend(a list) -/
def fExt {U : Type} (i : Nat) (fe : EF U D) : SF U := fun env u => match env[i]? with
  | some (.own (.list ds)) => So.after (fe env u) env fun d u1 => match d with
    | .list es => if ds.length + es.length ≤ line100 then .nx (env.set i (.own (.list (ds ++ es)))) u1 else .bad
    | _ => .bad
  | _ => .bad
theorem sim_ext (hK : X.K = C.K) {i : Nat} (h : SimP C te fe) : SimS C (tDrop (tBM X.K "list" rExtend (tVar i) (tCons te tNil))) (fExt i fe) := fun E env u σ Hb H Z rel q => by
  rw [hK]
  unfold fExt at q
  split at q
  · rename_i ds he
    obtain ⟨p, o, hp, ho, hr, nb⟩ := rel.own he
    cases hr with
    | lst rx =>
      rename_i xs
      refine ⟨.ref p, hp, .inl ⟨rfl, xs, SqL.of ho⟩, h env u σ Hb H _ rel.rel (PostS.bind rel q fun d u1 v Hb1 H1 n r rel1 q1 => ?_)⟩
      split at q1
      · rename_i es
        split at q1
        · rename_i hz
          obtain ⟨p1, o1, hp1, ho1, hr1, nb1⟩ := rel1.own he
          rw [hp] at hp1
          cases hp1
          obtain ⟨b, zs, ev, hb, rz⟩ := r.list n.wf
          cases hr1 with
          | lst rx1 =>
            rename_i xs1
            exact ⟨p, b, xs1, zs, rfl, by rw [ev], ho1, hb, line_le (by rw [rx1.length, rz.length]; exact hz), q1 _ _ _ (rel1.write he hp (.lst (rx1.append rz)))⟩
        · exact q1.elim
      · exact q1.elim
  · exact q.elim
theorem s_ext (hK : X.K = C.K) (i : Nat) {x : Str} {px apos cpos : Pos} (h : XP X C e te fe) (hN : X.N[i]? = some x := by rfl) (hv : Vis X.env.scope x := by first | exact Or.inl rfl | exact Or.inr (Or.inl rfl) | exact Or.inr (Or.inr rfl)) (hd : (x == ("__debug__" : Str)) = false := by decide)
    (hcd : (x == ("__classdict__" : Str)) = false := by decide) (hbase : attributeBase (.Name x px) "extend" X.env (eval (.Name x px) X.env) = eval (.Name x px) X.env := by rfl)
    (hfew : ((backTo cpos (starEach [e] X.env)).all (fun x => !x.1) && (backToKw cpos (keywordEach [] X.env)).all (fun x => x.1.isSome) && decide ([e].length + ([] : List Keyword).length + (if ([] : List Keyword).isEmpty then 0 else 1) < 30)) = true := by rfl)
    (hline : (apos.endLine == cpos.line) = true := by rfl) (hs : starEach [e] X.env = (false, eval e X.env) :: starEach [] X.env := by rfl) (hplain : (backTo cpos (starEach [] X.env)).any (·.1) = false := by rfl)
    (hs2 : swapsWith (.Call (.Attribute (.Name x px) "extend" apos) [e] [] cpos) none pos.line X.env = pure false := by rfl) :
    XS X C (.Expr (.Call (.Attribute (.Name x px) "extend" apos) [e] [] cpos) pos) (tDrop (tBM X.K "list" rExtend (tVar i) (tCons te tNil))) (fExt i fe) :=
  ⟨ps_expr (pe_bm F.plainAttrs_list F.slot_list_extend F.type_list_extend mt_extend (pe_var hN hv hd hcd) (pa_cons h.pe pa_nil hs) hbase hfew hline hs hplain) hs2, sim_ext hK h.s⟩
/-- d.update(a dict) -/
def fUpd {U : Type} (i : Nat) (fe : EF U D) : SF U := fun env u => match env[i]? with
  | some (.own (.dict ((.none, _) :: _))) => .bad
  | some (.own (.dict des)) => So.after (fe env u) env fun d u1 => match d with
    | .dict ((.none, _) :: _) => .bad
    | .dict es => if des.length + es.length ≤ line100 then .nx (env.set i (.own (.dict (mergeD des es)))) u1 else .bad
    | _ => .bad
  | _ => .bad
theorem sim_updN (hK : X.K = C.K) {i : Nat} (h : SimN C te fe) : SimS C (tDrop (tBM X.K "dict" rUpdate (tVar i) (tCons te tNil))) (fUpd i fe) := fun E env u σ Hb H Z rel q => by
  rw [hK]
  unfold fUpd at q
  split at q
  · exact q.elim
  · rename_i des hnm he
    obtain ⟨p, o, hp, ho, hr, nb⟩ := rel.own he
    cases hr with
    | dit rx => exact absurd rfl (hnm _ _)
    | dic rx =>
      rename_i kvs
      refine ⟨.ref p, hp, .inr (.inr (.inl ⟨rfl, .inl ⟨kvs, ho⟩⟩)), h env u σ Hb H _ rel.rel (PostS.bind rel q fun d u1 v Hb1 H1 n r rel1 q1 => ?_)⟩
      obtain ⟨b, ev, hb, ow⟩ := r
      split at q1
      · exact q1.elim
      · rename_i es hnm2
        split at q1
        · rename_i hz
          obtain ⟨p1, o1, hp1, ho1, hr1, nb1⟩ := rel1.own he
          rw [hp] at hp1
          cases hp1
          obtain ⟨ob, hob, hrb⟩ := ow.at_
          have hne : p ≠ b := fun z => by rw [← z, ho] at hb; cases hb
          cases hr1 with
          | dit rx1 => exact absurd rfl (hnm _ _)
          | dic rx1 =>
            rename_i kvs1
            cases hrb with
            | dit rz => exact absurd rfl (hnm2 _ _)
            | dic rz =>
              rename_i more
              have l1 := rx1.length
              have l2 := rz.length
              rw [List.length_map] at l1 l2
              exact ⟨p, b, kvs1, more, rfl, by rw [ev], ho1, hob, hne, line_le (by omega), q1 _ _ _ (rel1.write he hp (.dic (merge_rel more es kvs1 des rz rx1)))⟩
        · exact q1.elim
      · exact q1.elim
  · exact q.elim
theorem s_updN (hK : X.K = C.K) (i : Nat) {x : Str} {px apos cpos : Pos} (h : XN X C e te fe) (hN : X.N[i]? = some x := by rfl) (hv : Vis X.env.scope x := by first | exact Or.inl rfl | exact Or.inr (Or.inl rfl) | exact Or.inr (Or.inr rfl)) (hd : (x == ("__debug__" : Str)) = false := by decide)
    (hcd : (x == ("__classdict__" : Str)) = false := by decide) (hbase : attributeBase (.Name x px) "update" X.env (eval (.Name x px) X.env) = eval (.Name x px) X.env := by rfl)
    (hfew : ((backTo cpos (starEach [e] X.env)).all (fun x => !x.1) && (backToKw cpos (keywordEach [] X.env)).all (fun x => x.1.isSome) && decide ([e].length + ([] : List Keyword).length + (if ([] : List Keyword).isEmpty then 0 else 1) < 30)) = true := by rfl)
    (hline : (apos.endLine == cpos.line) = true := by rfl) (hs : starEach [e] X.env = (false, eval e X.env) :: starEach [] X.env := by rfl) (hplain : (backTo cpos (starEach [] X.env)).any (·.1) = false := by rfl)
    (hs2 : swapsWith (.Call (.Attribute (.Name x px) "update" apos) [e] [] cpos) none pos.line X.env = pure false := by rfl) :
    XS X C (.Expr (.Call (.Attribute (.Name x px) "update" apos) [e] [] cpos) pos) (tDrop (tBM X.K "dict" rUpdate (tVar i) (tCons te tNil))) (fUpd i fe) :=
  ⟨ps_expr (pe_bm F.plainAttrs_dict F.slot_dict_update F.type_dict_update mt_update (pe_var hN hv hd hcd) (pa_cons h.pe pa_nil hs) hbase hfew hline hs hplain) hs2, sim_updN hK h.s⟩
/-- d[k] = v, xs[k] = v -/
def fPut {U : Type} (i : Nat) (fk fv : EF U D) : SF U := fun env u => match env[i]? with
  | some (.own (.dict des)) => So.after (fv env u) env fun v u1 => So.after (fk env u1) env fun k u2 => match setD des k v with
    | some des' => .nx (env.set i (.own (.dict des'))) u2
    | none => .bad
  | _ => .bad
def fPutL {U : Type} (i : Nat) (fk fv : EF U D) : SF U := fun env u => match env[i]? with
  | some (.own (.list ds)) => So.after (fv env u) env fun v u1 => So.after (fk env u1) env fun k u2 => match k with
    | .int n => match ixN ds.length n with
      | some j => .nx (env.set i (.own (.list (ds.set j v)))) u2
      | none => .bad
    | _ => .bad
  | _ => .bad
theorem setD_key {des : List (D × D)} {k d : D} (nm : ∀ z r, des ≠ (.none, z) :: r) (hk : isKey k = true) : setD des k d = if des.length < line100 then some (putD des k d) else none := by
  cases k <;> first | exact absurd (show false = true from hk) Bool.false_ne_true | (cases des with
    | nil => rfl
    | cons q r => obtain ⟨a, b⟩ := q; cases a <;> first | rfl | exact absurd rfl (nm _ _))
theorem setD_nokey {des : List (D × D)} {k d : D} (nm : ∀ z r, des ≠ (.none, z) :: r) (hk : isKey k = false) : setD des k d = none := by
  cases k <;> first | exact absurd (show true = false from hk).symm Bool.false_ne_true | (cases des with
    | nil => rfl
    | cons q r => obtain ⟨a, b⟩ := q; cases a <;> first | rfl | exact absurd rfl (nm _ _))
theorem own_put {p : Addr} {o : HO} {des des' : List (D × D)} {y v : V} {k d : D} (w : Wf C.hp u Hb H) (ho : H p = some o) (hr : OwnRp C.K Hb o (.dict des)) (hy : Rp C.K Hb y k) (hv : Rp C.K Hb v d) (e : setD des k d = some des') :
    ∃ o', DPut H p y v (upd H p o') ∧ OwnRp C.K Hb o' (.dict des') := by
  cases hr with
  | dic rx =>
    rename_i kvs
    have lz := rx.length
    rw [List.length_map] at lz
    have nm : ∀ z r, des ≠ (.none, z) :: r := fun z r e => by
      subst e
      exact RpK.unmarked rx
    cases hk : isKey k with
    | false => rw [setD_nokey nm hk] at e; cases e
    | true =>
      rw [setD_key nm hk] at e
      split at e
      · rename_i hz
        cases e
        obtain ⟨kk, e1, e2⟩ : ∃ kk : Key, k = keyD kk ∧ y = kV kk := by
          cases k with
          | int j => exact ⟨.inl j, rfl, Rp.scal_int hy⟩
          | str j => exact ⟨.inr j, rfl, Rp.scal_str hy⟩
          | none => cases hk
          | bool _ => cases hk
          | list _ => cases hk
          | tuple _ => cases hk
          | dict _ => cases hk
        subst e1
        exact ⟨_, .inl ⟨kvs, kk, ho, e2, line_lt (by omega), rfl⟩, .dic (put_rel keyD keq_key kk hv kvs des rx)⟩
      · cases e
  | dit rx =>
    rename_i kvs r
    have lz := rx.length
    rw [List.length_map] at lz
    cases k with
    | tuple ds =>
      have e : (if ds.all isKey = true ∧ r.length < line100 then some ((.none, .none) :: putD r (.tuple ds) d) else none) = some des' := e
      split at e
      · rename_i f
        cases e
        cases hy with
        | tup hb rv =>
          rename_i b vs
          obtain ⟨ks, e1, e2⟩ := keys_of rv f.1
          subst e1
          subst e2
          exact ⟨_, .inr ⟨kvs, ks, b, ho, rfl, w.sub.tupl hb, line_lt (by omega), rfl⟩, .dit (put_rel (fun k : List Key => .tuple (k.map keyD)) (fun a b => keq_keys a b) ks hv kvs r rx)⟩
      · cases e
    | none => cases e
    | bool _ => cases e
    | int _ => cases e
    | str _ => cases e
    | list _ => cases e
    | dict _ => cases e
theorem sim_put {i : Nat} (hk : SimE C ta fa) (hv : SimE C te fe) : SimS C (sDPut (tVar i) ta te) (fPut i fa fe) := fun E env u σ Hb H Z rel q => by
  unfold fPut at q
  split at q
  · rename_i des he
    refine hv env u σ Hb H _ rel.rel (PostS.bind rel q fun v u1 y Hb1 H1 n1 r1 rel1 q1 => ?_)
    obtain ⟨p, o, hp, _⟩ := rel1.own he
    refine ⟨.ref p, hp, ?_⟩
    refine hk env u1 σ Hb1 H1 _ rel1.rel (PostS.bind rel1 q1 fun k u2 z Hb2 H2 n2 r2 rel2 q2 => ?_)
    obtain ⟨p2, o2, hp2, ho2, hr2, _⟩ := rel2.own he
    rw [hp] at hp2
    cases hp2
    have r1' : Rp C.K Hb2 y v := Rp.mono n2.ext r1
    cases hs : setD des k v with
    | none => rw [hs] at q2; exact q2.elim
    | some des' =>
      rw [hs] at q2
      obtain ⟨o', h1, h2⟩ := own_put n2.wf ho2 hr2 r2 r1' hs
      exact ⟨p, _, rfl, h1, q2 _ _ _ (rel2.write he hp h2)⟩
  · exact q.elim
theorem s_put (hu : X.A.units + 1 < cLine) (i : Nat) {x : Str} {px pos' : Pos} {ik : Expr} (hk : XE X C ik ta fa) (hv : XE X C e te fe) (hN : X.N[i]? = some x := by rfl) (hvis : Vis X.env.scope x := by first | exact Or.inl rfl | exact Or.inr (Or.inl rfl) | exact Or.inr (Or.inr rfl)) (hd : (x == ("__debug__" : Str)) = false := by decide)
    (hcd : (x == ("__classdict__" : Str)) = false := by decide) (hs : swapsWith e (some (.Subscript (.Name x px) ik pos')) pos.line X.env = pure false := by rfl) :
    XS X C (.Assign [.Subscript (.Name x px) ik pos'] e pos) (sDPut (tVar i) ta te) (fPut i fa fe) := ⟨ps_dput hu (pe_var hN hvis hd hcd) hk.pe hv.pe hs, sim_put hk.s hv.s⟩
theorem sim_putL {i : Nat} (hk : SimE C ta fa) (hv : SimE C te fe) : SimS C (tAsg te (gSub (tVar i) ta rSetL)) (fPutL i fa fe) := fun E env u σ Hb H Z rel q => by
  unfold fPutL at q
  split at q
  · rename_i ds he
    refine hv env u σ Hb H _ rel.rel (PostS.bind rel q fun v u1 y Hb1 H1 n1 r1 rel1 q1 => ?_)
    obtain ⟨p, o, hp, _⟩ := rel1.own he
    refine ⟨.ref p, hp, ?_⟩
    refine hk env u1 σ Hb1 H1 _ rel1.rel (PostS.bind rel1 q1 fun k u2 z Hb2 H2 n2 r2 rel2 q2 => ?_)
    obtain ⟨p2, o2, hp2, ho2, hr2, _⟩ := rel2.own he
    rw [hp] at hp2
    cases hp2
    have r1' : Rp C.K Hb2 y v := Rp.mono n2.ext r1
    split at q2
    · rename_i n
      have ez := Rp.scal_int r2
      subst ez
      cases hr2 with
      | lst rx =>
        rename_i xs
        cases hj : ixN ds.length n with
        | none => rw [hj] at q2; exact q2.elim
        | some j =>
          rw [hj] at q2
          exact ⟨p, xs, n, j, rfl, rfl, ho2, by rw [rx.length]; exact hj, q2 _ _ _ (rel2.write he hp (.lst (rx.set r1' j)))⟩
    · exact q2.elim
  · exact q.elim
theorem s_putL (i : Nat) {x : Str} {px pos' : Pos} {ik : Expr} (hk : XE X C ik ta fa) (hv : XE X C e te fe) (hN : X.N[i]? = some x := by rfl) (hvis : Vis X.env.scope x := by first | exact Or.inl rfl | exact Or.inr (Or.inl rfl) | exact Or.inr (Or.inr rfl)) (hd : (x == ("__debug__" : Str)) = false := by decide)
    (hcd : (x == ("__classdict__" : Str)) = false := by decide) (hasg : ∀ z, assign (.Subscript (.Name x px) ik pos') X.env z = (do let ov ← holding [z] (eval (.Name x px) X.env); let iv ← holding [z, ov] (eval ik X.env); standAt pos'; holding [z, ov, iv] (setItem ov iv z); release [z, ov, iv] []) := by intro _; rfl)
    (hs : swapsWithSole [.Subscript (.Name x px) ik pos'] e pos.line X.env = pure false := by rfl) (hw : swappedStores [.Subscript (.Name x px) ik pos'] e X.env = pure none := by rfl) :
    XS X C (.Assign [.Subscript (.Name x px) ik pos'] e pos) (tAsg te (gSub (tVar i) ta rSetL)) (fPutL i fa fe) := ⟨ps_asg hv.pe (pg_sub (pe_var hN hvis hd hcd) hk.pe set_list hasg) hs hw, sim_putL hk.s hv.s⟩

/-! ### name op= e -/
def IpS (C : Ctx U) (r : TIp) (op : D → D → Option D) : Prop := ∀ (x y : V) (dx dy d : D) (u : U) (Hb H : Hp) (Q : VK), op dx dy = some d → Wf C.hp u Hb H → Rp C.K Hb x dx → Rp C.K Hb y dy →
  (∀ v Hb' H', Nxt C.hp u u Hb H Hb' H' → Rp C.K Hb' v d → Q v H') → r x y H Q
def fAug {U : Type} (i : Nat) (op : D → D → Option D) (fe : EF U D) : SF U := fun env u => match env[i]? with
  | some (.val x) => So.after (fe env u) env fun y u1 => match op x y with
    | some d => .nx (env.set i (.val d)) u1
    | none => .bad
  | _ => .bad
def intOp (g : Int → Int → Int) : D → D → Option D
  | .int i, .int j => some (.int (g i j))
  | _, _ => none
theorem ips_int {g : Int → Int → Int} : IpS C (ipI g) (intOp g) := fun x y dx dy d u Hb H Q e w rx ry q => by
  unfold intOp at e
  split at e
  · cases e
    exact ⟨_, _, Rp.scal_int rx, Rp.scal_int ry, q _ Hb H (Nxt.refl w) (.int _)⟩
  · cases e
theorem sim_aug {i : Nat} {r : TIp} {op : D → D → Option D} (ho : IpS C r op) (h : SimE C te fe) : SimS C (tAug i te r) (fAug i op fe) := fun E env u σ Hb H Z rel q => by
  unfold fAug at q
  split at q
  · rename_i x he
    obtain ⟨v, ev, rv⟩ := rel.rel.slot i _ he
    refine ⟨v, join_some ev, h env u σ Hb H _ rel.rel (PostS.bind rel q fun y u1 w Hb1 H1 n1 r1 rel1 q1 => ?_)⟩
    cases e : op x y with
    | none => rw [e] at q1; exact q1.elim
    | some d =>
      rw [e] at q1
      exact ho v w x y d u1 Hb1 H1 _ e n1.wf (rv.mono n1.ext) r1 fun z Hb2 H2 n2 r2 => q1 _ _ _ ((rel1.next n2).setV r2)
  · exact q.elim
theorem s_aug {op : Operator} {r : TIp} {f : D → D → Option D} (hr : PIp X op r) (hs : IpS C r f) (i : Nat) {x : Str} {pos' : Pos} (hN : X.N.Nodup) (h : XE X C e te fe) (hi : X.N[i]? = some x := by rfl) (hx : Loc X.env.scope x := by first | exact Or.inl rfl | exact Or.inr rfl)
    (hf : X.fn x = true ∨ X.env.scope.names.lookup x = some .local := by first | exact .inl rfl | exact .inr rfl) : XS X C (.AugAssign (.Name x pos') op e pos) (tAug i te r) (fAug i f fe) := ⟨ps_aug hN hi hx h.pe hr hf, sim_aug hs h.s⟩

/-! ### several names at once -/
inductive MA where
  | v (d : D)
  | o (d : D)
inductive MAs (C : Ctx U) (H0 : Hp) (u : U) (Hb H : Hp) : List V → List MA → List Addr → Prop
  | nil : MAs C H0 u Hb H [] [] []
  | v {v : V} {d : D} {vs : List V} {as : List MA} {ps : List Addr} : Rp C.K Hb v d → MAs C H0 u Hb H vs as ps → MAs C H0 u Hb H (v :: vs) (.v d :: as) ps
  | o {p : Addr} {d : D} {vs : List V} {as : List MA} {ps : List Addr} : H0 p = none → OwnAt C u Hb H p d → p ∉ ps → MAs C H0 u Hb H vs as ps → MAs C H0 u Hb H (.ref p :: vs) (.o d :: as) (p :: ps)
def RM (C : Ctx U) : Hp → U → Hp → Hp → List V → List MA → Prop := fun H0 u Hb H vs as => ∃ ps, MAs C H0 u Hb H vs as ps
theorem MAs.back {H0 H1 : Hp} (h : ∀ b, H0 b ≠ none → H1 b ≠ none) : ∀ {vs : List V} {as : List MA} {ps : List Addr}, MAs C H1 u Hb H vs as ps → MAs C H0 u Hb H vs as ps
  | _, _, _, .nil => .nil
  | _, _, _, .v r m => .v r (MAs.back h m)
  | _, _, _, .o (p := p) hn ow np m => .o (by
      cases q : H0 p with
      | none => rfl
      | some x => exact absurd hn (h p (by rw [q]; exact fun z => nomatch z))) ow np (MAs.back h m)
structure XM (X : Cx) (C : Ctx U) (es : List Expr) (ta : TA) (fa : EF U (List MA)) : Prop where
  pe : PA X es ta
  s : Sim C (RM C) ta fa
def fMNil {U : Type} : EF U (List MA) := fun _ u => .ok [] u
def fMV {U : Type} (fe : EF U D) (fas : EF U (List MA)) : EF U (List MA) := fun env u => (fe env u).bind fun d u1 => (fas env u1).bind fun ds u2 => .ok (.v d :: ds) u2
def fMO {U : Type} (fe : EF U D) (fas : EF U (List MA)) : EF U (List MA) := fun env u => (fe env u).bind fun d u1 => (fas env u1).bind fun ds u2 => .ok (.o d :: ds) u2
theorem xm_nil : XM X C [] tNil fMNil := ⟨pa_nil, fun env u σ Hb H Q r q => q.okI r.wf ⟨[], .nil⟩⟩
theorem MAs.nxt {H0 : Hp} (n : Nxt C.hp u u1 Hb H Hb1 H1) : ∀ {vs : List V} {as : List MA} {ps : List Addr}, MAs C H0 u Hb H vs as ps → MAs C H0 u1 Hb1 H1 vs as ps
  | _, _, _, .nil => .nil
  | _, _, _, .v r m => .v (Rp.mono n.ext r) (MAs.nxt n m)
  | _, _, _, .o hn ow np m => .o hn (ow.nxt n) np (MAs.nxt n m)
theorem MAs.fresh {H0 : Hp} : ∀ {vs : List V} {as : List MA} {ps : List Addr}, MAs C H0 u Hb H vs as ps → ∀ p ∈ ps, H0 p = none
  | _, _, _, .nil, _, h => by cases h
  | _, _, _, .v _ m, p, h => MAs.fresh m p h
  | _, _, _, .o hn _ _ m, p, h => by
    rcases List.mem_cons.mp h with e | h
    · subst e; exact hn
    · exact MAs.fresh m p h
theorem xm_v {fas : EF U (List MA)} (h : XE X C e te fe) (hr : XM X C es tas fas) (hs : starEach (e :: es) X.env = (false, eval e X.env) :: starEach es X.env := by rfl) : XM X C (e :: es) (tCons te tas) (fMV fe fas) := ⟨pa_cons h.pe hr.pe hs, fun env u σ Hb H Q rel q =>
  h.s env u σ Hb H _ rel (Post.bind q fun d u1 v Hb1 H1 n r h1 =>
    hr.s env u1 σ Hb1 H1 _ (rel.nxt n) (Post.bind h1 fun ds u2 vs Hb2 H2 n2 rs h2 => by
      obtain ⟨ps, m⟩ := rs
      exact h2.okI n2.wf ⟨ps, .v (Rp.mono n2.ext r) (m.back n.there)⟩))⟩
theorem xm_o {fas : EF U (List MA)} (h : XN X C e te fe) (hr : XM X C es tas fas) (hs : starEach (e :: es) X.env = (false, eval e X.env) :: starEach es X.env := by rfl) : XM X C (e :: es) (tCons te tas) (fMO fe fas) := ⟨pa_cons h.pe hr.pe hs, fun env u σ Hb H Q rel q =>
  h.s env u σ Hb H _ rel (Post.bind q fun d u1 v Hb1 H1 n r h1 =>
    hr.s env u1 σ Hb1 H1 _ (rel.nxt n) (Post.bind h1 fun ds u2 vs Hb2 H2 n2 rs h2 => by
      obtain ⟨ps, m⟩ := rs
      obtain ⟨p, ev, hp, ow⟩ := r
      subst ev
      refine h2.okI n2.wf ⟨p :: ps, .o hp (ow.nxt n2) (fun z => ?_) (m.back n.there)⟩
      obtain ⟨ob, ho, _⟩ := ow.at_
      have := m.fresh p z
      rw [this] at ho
      cases ho))⟩
/-- the slots is are given the things -/
def setM : List Nat → List MA → Env → Option Env
  | [], [], env => some env
  | i :: is, .v d :: as, env => setM is as (env.set i (.val d))
  | i :: is, .o d :: as, env => setM is as (env.set i (.own d))
  | _, _, _ => none
def setV : List Nat → List V → St → St
  | i :: is, v :: vs, σ => setV is vs (σ.set i (some v))
  | _, _, σ => σ
theorem RelS.setM {H0 : Hp} : ∀ {is : List Nat} {vs : List V} {as : List MA} {ps : List Addr} {env env' : Env} {σ : St}, RelS C E env u σ Hb H → MAs C H0 u Hb H vs as ps → (∀ p ∈ ps, E.H0 p = none ∧ ¬ Uses env σ p) → DL.setM is as env = some env' → RelS C E env' u (DL.setV is vs σ) Hb H
  | [], _, _, _, env, env', σ, r, .nil, _, e => by
    cases Option.some.inj e
    exact r
  | [], _, _, _, env, env', σ, r, .v _ _, _, e => by cases e
  | [], _, _, _, env, env', σ, r, .o _ _ _ _, _, e => by cases e
  | i :: is, _, _, _, env, env', σ, r, .nil, _, e => by cases e
  | i :: is, _, _, _, env, env', σ, r, .v (v := v) (d := d) rv m, hn, e => by
    refine RelS.setM (is := is) (r.setV (i := i) rv) m (fun p hp => ⟨(hn p hp).1, fun z => ?_⟩) e
    rcases uses_set r.rel.len z with z | ⟨_, _, z⟩
    · exact (hn p hp).2 z
    · cases z
  | i :: is, _, _, _, env, env', σ, r, .o (p := q) (d := d) hq ow np m, hn, e => by
    refine RelS.setM (is := is) (r.setO (i := i) ow (hn q List.mem_cons_self).1 (hn q List.mem_cons_self).2) m (fun p hp => ⟨(hn p (List.mem_cons_of_mem _ hp)).1, fun z => ?_⟩) e
    rcases uses_set r.rel.len z with z | ⟨z, _⟩
    · exact (hn p (List.mem_cons_of_mem _ hp)).2 z
    · cases z
      exact np hp
def fPar {U : Type} (is : List Nat) (fas : EF U (List MA)) : SF U := fun env u => So.after (fas env u) env fun as u1 => match setM is as env with
  | some env' => .nx env' u1
  | none => .bad
theorem MAs.len {H0 : Hp} : ∀ {is : List Nat} {vs : List V} {as : List MA} {ps : List Addr} {env env' : Env}, MAs C H0 u Hb H vs as ps → DL.setM is as env = some env' → vs.length = is.length
  | [], _, _, _, _, _, .nil, _ => rfl
  | [], _, _, _, _, _, .v _ _, e => by cases e
  | [], _, _, _, _, _, .o _ _ _ _, e => by cases e
  | _ :: _, _, _, _, _, _, .nil, e => by cases e
  | i :: is, _, _, _, _, _, .v _ m, e => by
    rw [List.length_cons, List.length_cons, MAs.len (is := is) m e]
  | i :: is, _, _, _, _, _, .o _ _ _ m, e => by
    rw [List.length_cons, List.length_cons, MAs.len (is := is) m e]
/-- behind the values: what the store hands on -/
theorem par_go {is : List Nat} {fas : EF U (List MA)} {Q : List V → Hp → Prop} (h : Sim C (RM C) tas fas) (rel : RelS C E env u σ Hb H) (q : PostS C E (fPar is fas env u) Z)
    (k : ∀ vs Hb1 H1, vs.length = is.length → (∀ (Hb2 H2 : Hp), (∀ u1, Wf C.hp u1 Hb1 H1 → Nxt C.hp u1 u1 Hb1 H1 Hb2 H2) → Z.nx (setV is vs σ) H2) → Q vs H1) : tas σ H Q := by
  refine h env u σ Hb H _ rel.rel (PostS.bind rel q fun as u1 vs Hb1 H1 n r rel1 q1 => ?_)
  obtain ⟨ps, m⟩ := r
  cases hs : setM is as env with
  | none => rw [hs] at q1; exact q1.elim
  | some env' =>
    rw [hs] at q1
    refine k vs Hb1 H1 (m.len hs) fun Hb2 H2 hn => ?_
    have n2 := hn u1 n.wf
    refine q1 _ _ _ (RelS.setM (rel1.next n2) (m.nxt n2) (fun p hp => ⟨?_, fun z => ?_⟩) hs)
    · exact rel.nxt.back (m.fresh p hp)
    · exact absurd (m.fresh p hp) (rel.rel.used z)
theorem s_par2 {i j : Nat} {x y : Str} {fas : EF U (List MA)} {px py pt : Pos} {kt k2 pt2} (hc : X.calm = true) (hN : X.N.Nodup) (ha : XM X C [a, b] tas fas) (hij : i ≠ j) (hi : X.N[i]? = some x := by rfl) (hj : X.N[j]? = some y := by rfl)
    (hx : X.env.scope.names.lookup x = some .local := by rfl) (hy : X.env.scope.names.lookup y = some .local := by rfl)
    (hw : swappedStores [.Tuple [.Name x px, .Name y py] kt pt] (.Tuple [a, b] k2 pt2) X.env = pure (some [x, y]) := by rfl)
    (hs : swapsWithSole [.Tuple [.Name x px, .Name y py] kt pt] (.Tuple [a, b] k2 pt2) pos.line X.env = pure false := by rfl) :
    XS X C (.Assign [.Tuple [.Name x px, .Name y py] kt pt] (.Tuple [a, b] k2 pt2) pos) (tPar i j tas) (fPar [i, j] fas) := ⟨ps_par hc hN hi hj hij hx hy ha.pe hw hs, fun E env u σ Hb H Z rel q =>
  par_go ha.s rel q fun vs Hb1 H1 hl k => by
    match vs, hl with
    | [v, w], _ => exact ⟨v, w, rfl, k Hb1 H1 fun u1 w1 => Nxt.refl w1⟩⟩
theorem s_par3 {i j l : Nat} {x y z : Str} {fas : EF U (List MA)} {px py pz pt : Pos} {kt k2 pt2} (hc : X.calm = true) (hN : X.N.Nodup) (ha : XM X C [a, b, c] tas fas) (hij : i ≠ j) (hil : i ≠ l) (hjl : j ≠ l) (hi : X.N[i]? = some x := by rfl) (hj : X.N[j]? = some y := by rfl) (hl : X.N[l]? = some z := by rfl)
    (hx : X.env.scope.names.lookup x = some .local := by rfl) (hy : X.env.scope.names.lookup y = some .local := by rfl) (hz : X.env.scope.names.lookup z = some .local := by rfl)
    (hw : swappedStores [.Tuple [.Name x px, .Name y py, .Name z pz] kt pt] (.Tuple [a, b, c] k2 pt2) X.env = pure (some [x, y, z]) := by rfl)
    (hs : swapsWithSole [.Tuple [.Name x px, .Name y py, .Name z pz] kt pt] (.Tuple [a, b, c] k2 pt2) pos.line X.env = pure false := by rfl) :
    XS X C (.Assign [.Tuple [.Name x px, .Name y py, .Name z pz] kt pt] (.Tuple [a, b, c] k2 pt2) pos) (tPar3 i j l tas) (fPar [i, j, l] fas) := ⟨ps_par3 hc hN hi hj hl hij hil hjl hx hy hz ha.pe hw hs, fun E env u σ Hb H Z rel q =>
  par_go ha.s rel q fun vs Hb1 H1 hl k => by
    match vs, hl with
    | [v, w, y], _ => exact ⟨v, w, y, rfl, k Hb1 H1 fun u1 w1 => Nxt.refl w1⟩⟩
/-- by a tuple that is made and taken apart: names of which some are cells, or more than three -/
def gNames : List Nat → TGs
  | [] => gNil
  | i :: is => gCons (gName i) (gNames is)
theorem gNames_go : ∀ (is : List Nat) (vs : List V) (σ : St) (H : Hp) (Q : St → Hp → Prop), vs.length = is.length → Q (setV is vs σ) H → gNames is vs σ H Q
  | [], [], σ, H, Q, _, q => ⟨rfl, q⟩
  | [], _ :: _, _, _, _, h, _ => by cases h
  | _ :: _, [], _, _, _, h, _ => by cases h
  | i :: is, v :: vs, σ, H, Q, h, q => ⟨v, vs, rfl, gNames_go is vs _ H Q (Nat.succ.inj h) q⟩
theorem s_parT {is : List Nat} {fas : EF U (List MA)} {ts : List Expr} {k1 k2 pt pt2} (hz : is.length ≤ line100) (hl : ts.length = is.length) (ha : XM X C es tas fas)
    (hg2 : PG X (.Tuple ts k1 pt) (gTup X.K ts.length (gNames is)))
    (hs : swapsWithSole [.Tuple ts k1 pt] (.Tuple es k2 pt2) pos.line X.env = pure false := by rfl) (hw : swappedStores [.Tuple ts k1 pt] (.Tuple es k2 pt2) X.env = pure none := by rfl) :
    XS X C (.Assign [.Tuple ts k1 pt] (.Tuple es k2 pt2) pos) (tAsg (tTup tas) (gTup X.K ts.length (gNames is))) (fPar is fas) := ⟨ps_asg (pe_tup ha.pe) hg2 hs hw, fun E env u σ Hb H Z rel q =>
  par_go ha.s rel q fun vs Hb1 H1 hv k => ⟨line_le (by omega), fun p hp => ⟨p, vs, rfl, SqT.of upd_same, by omega, gNames_go is vs σ _ _ hv (k Hb1 _ fun u1 w1 => Nxt.allocO w1 hp)⟩⟩⟩
end
end DL

namespace DL
open PySem L2
open Evl (Ex)

/-! ### what is walked -/
section
variable {U : Type} (X : Cx) (C : Ctx U)
/-- an iterator, and the data that it gives -/
def RI : Hp → U → Hp → Hp → It → List D → Prop := fun _ _ Hb _ J ds => ∃ (G : Hp → Prop) (Y : Nat → Hp → V → Hp → Prop), Walk J ds.length G Y ∧ (∀ Hc Hx, Ex Hb Hc → Sub Hc Hx → G Hx) ∧
  ∀ (i : Nat) (x : V) (Hx Hx' : Hp) (u : U) (Hc : Hp), i < ds.length → Y i Hx x Hx' → Wf C.hp u Hc Hx → Ex Hb Hc → ∃ Hc' d, ds[i]? = some d ∧ Nxt C.hp u u Hc Hx Hc' Hx' ∧ Rp C.K Hc' x d
structure XI (tg e : Expr) (wi : TI) (fi : EF U (List D)) : Prop where
  pi : PI X tg e wi
  s : Sim C (RI C) wi fi
/-- a target: the slots of is are given what the data says -/
def putE : List (Nat × V × D) → Env → Env
  | [], env => env
  | (i, _, d) :: l, env => putE l (env.set i (.val d))
def putS : List (Nat × V × D) → St → St
  | [], σ => σ
  | (i, v, _) :: l, σ => putS l (σ.set i (some v))
def SimG (g : TG) (fg : D → Env → Option Env) (is : List Nat) : Prop := ∀ env env' Hb H v d, fg d env = some env' → Sub Hb H → Rp C.K Hb v d →
  ∃ l : List (Nat × V × D), env' = putE l env ∧ (∀ q ∈ l, Rp C.K Hb q.2.1 q.2.2 ∧ q.1 ∈ is) ∧ ∀ σ (Q : St → Hp → Prop), Q (putS l σ) H → g v σ H Q
def SimGs (g : TGs) (fg : List D → Env → Option Env) (is : List Nat) : Prop := ∀ env env' Hb H vs ds, fg ds env = some env' → Sub Hb H → RpL C.K Hb vs ds →
  ∃ l : List (Nat × V × D), env' = putE l env ∧ (∀ q ∈ l, Rp C.K Hb q.2.1 q.2.2 ∧ q.1 ∈ is) ∧ ∀ σ (Q : St → Hp → Prop), Q (putS l σ) H → g vs σ H Q
structure XG (tg : Expr) (g : TG) (fg : D → Env → Option Env) (is : List Nat) : Prop where
  pg : PG X tg g
  s : SimG C g fg is
structure XGs (tg : List Expr) (g : TGs) (fg : List D → Env → Option Env) (is : List Nat) : Prop where
  pg : PGs X tg g
  s : SimGs C g fg is
end
theorem putE_append : ∀ (l m : List (Nat × V × D)) (env : Env), putE (l ++ m) env = putE m (putE l env)
  | [], _, _ => rfl
  | (i, _, d) :: l, m, env => putE_append l m _
theorem putS_append : ∀ (l m : List (Nat × V × D)) (σ : St), putS (l ++ m) σ = putS m (putS l σ)
  | [], _, _ => rfl
  | (i, v, _) :: l, m, σ => putS_append l m _
def gfName (i : Nat) : D → Env → Option Env := fun d env => some (env.set i (.val d))
def gfNil : List D → Env → Option Env
  | [], env => some env
  | _, _ => none
def gfCons (f : D → Env → Option Env) (g : List D → Env → Option Env) : List D → Env → Option Env
  | d :: ds, env => (f d env).bind fun env1 => g ds env1
  | [], _ => none
def gfTup (n : Nat) (g : List D → Env → Option Env) : D → Env → Option Env
  | .tuple ds, env => if ds.length = n then g ds env else none
  | _, _ => none
section
variable {U : Type} {X : Cx} {C : Ctx U} {tg e a b c : Expr} {te ta tb tc : TE} {fe fa fb fc : EF U D} {pos p : Pos} {es : List Expr} {wi : TI} {fi : EF U (List D)} {g : TG} {gs : TGs} {fg : D → Env → Option Env} {fgs : List D → Env → Option Env} {is js : List Nat}
theorem xg_name (i : Nat) {x : Str} (hN : X.N.Nodup) (hi : X.N[i]? = some x := by rfl) (hx : Loc X.env.scope x := by first | exact Or.inl rfl | exact Or.inr rfl) (hf : X.fn x = true ∨ X.env.scope.names.lookup x = some .local := by first | exact .inl rfl | exact .inr rfl) : XG X C (.Name x pos) (gName i) (gfName i) [i] :=
  ⟨pg_name hN hi hx hf, fun env env' Hb H v d e s r => by
    cases Option.some.inj e
    exact ⟨[(i, v, d)], rfl, fun q hq => by cases List.mem_singleton.mp hq; exact ⟨r, List.mem_singleton.mpr rfl⟩, fun σ Q q => q⟩⟩
theorem xgs_nil : XGs X C [] gNil gfNil [] := ⟨pgs_nil, fun env env' Hb H vs ds e s r => by
  cases r with
  | nil =>
    cases Option.some.inj e
    exact ⟨[], rfl, (fun q hq => by cases hq), fun σ Q q => ⟨rfl, q⟩⟩
  | cons _ _ => cases e⟩
theorem simG_cons (h1 : SimG C g fg is) (h2 : SimGs C gs fgs js) : SimGs C (gCons g gs) (gfCons fg fgs) (is ++ js) := fun env env' Hb H vs ds e s r => by
  cases r with
  | nil => cases e
  | cons hv hr =>
    rename_i v vs d ds
    have e : (fg d env).bind (fun env1 => fgs ds env1) = some env' := e
    cases h3 : fg d env with
    | none => rw [h3] at e; cases e
    | some env1 =>
      rw [h3] at e
      obtain ⟨l, e1, r1, k1⟩ := h1 env env1 Hb H v d h3 s hv
      obtain ⟨m, e2, r2, k2⟩ := h2 env1 env' Hb H vs ds e s hr
      subst e1
      subst e2
      refine ⟨l ++ m, (putE_append l m env).symm, fun q hq => ?_, fun σ Q q => ⟨v, vs, rfl, k1 σ _ (k2 _ Q ?_)⟩⟩
      · rcases List.mem_append.mp hq with hq | hq
        · exact ⟨(r1 q hq).1, List.mem_append_left _ (r1 q hq).2⟩
        · exact ⟨(r2 q hq).1, List.mem_append_right _ (r2 q hq).2⟩
      · rw [← putS_append]; exact q
theorem xgs_cons (h1 : XG X C e g fg is) (h2 : XGs X C es gs fgs js) (ha : List.map (fun x => x.snd) (assignEach (e :: es) X.env) = assign e X.env :: List.map (fun x => x.snd) (assignEach es X.env) := by rfl) : XGs X C (e :: es) (gCons g gs) (gfCons fg fgs) (is ++ js) := ⟨pgs_cons h1.pg h2.pg ha, simG_cons h1.s h2.s⟩
theorem simG_tup (hK : X.K = C.K) (h : SimGs C gs fgs is) {n : Nat} : SimG C (gTup X.K n gs) (gfTup n fgs) is := fun env env' Hb H v d e s r => by
  rw [hK]
  unfold gfTup at e
  split at e
  · split at e
    · rename_i ds hl
      cases r with
      | tup ha rx =>
        obtain ⟨l, e1, r1, k1⟩ := h env env' Hb H _ _ e s rx
        exact ⟨l, e1, r1, fun σ Q q => ⟨_, _, rfl, SqT.of (s.tupl ha), by rw [rx.length]; exact hl, k1 σ Q q⟩⟩
    · cases e
  · cases e
theorem xg_tup (hK : X.K = C.K) (hc : X.calm = true) {n k : Nat} (h : XGs X C es gs fgs is) (h1 : (assignEach es X.env).length = n := by rfl) (h2 : List.findIdx? (fun x => x.fst) (assignEach es X.env) = none := by rfl) : XG X C (.Tuple es k pos) (gTup X.K n gs) (gfTup n fgs) is := ⟨pg_tup hc h.pg h1 h2, simG_tup hK h.s⟩
/-! ### relations behind a target -/
theorem Rel.set1 {env : Env} {u : U} {σ : St} {Hb H : Hp} {i : Nat} {v : V} {d : D} (r : Rel C env u σ Hb H) (h : Rp C.K Hb v d) : Rel C (env.set i (.val d)) u (σ.set i (some v)) Hb H := by
  have hl := r.len
  refine ⟨r.wf, by rw [List.length_set, List.length_set, hl], fun j s hs => ?_, fun j k d1 d2 p h1 h2 h3 h4 => ?_⟩
  · rcases set_get hs with ⟨e, e2, hi⟩ | ⟨e, hs'⟩
    · subst e
      subst e2
      rw [List.getElem?_set_self (by omega)]
      exact ⟨v, rfl, h⟩
    · rw [List.getElem?_set_ne e]
      exact r.slot j s hs'
  · rcases set_get h1 with ⟨_, e2, _⟩ | ⟨e, h1'⟩
    · cases e2
    · rcases set_get h2 with ⟨_, e2, _⟩ | ⟨e', h2'⟩
      · cases e2
      · rw [List.getElem?_set_ne e] at h3
        rw [List.getElem?_set_ne e'] at h4
        exact r.dist j k d1 d2 p h1' h2' h3 h4
theorem Rel.put {u : U} {Hb H : Hp} : ∀ {l : List (Nat × V × D)} {env : Env} {σ : St}, Rel C env u σ Hb H → (∀ q ∈ l, Rp C.K Hb q.2.1 q.2.2) → Rel C (putE l env) u (putS l σ) Hb H
  | [], _, _, r, _ => r
  | (i, v, d) :: l, env, σ, r, h => Rel.put (l := l) (r.set1 (i := i) (h (i, v, d) List.mem_cons_self)) fun q hq => h q (List.mem_cons_of_mem _ hq)
theorem RelS.put {E : Ent U} {u : U} {Hb H : Hp} : ∀ {l : List (Nat × V × D)} {env : Env} {σ : St}, RelS C E env u σ Hb H → (∀ q ∈ l, Rp C.K Hb q.2.1 q.2.2) → RelS C E (putE l env) u (putS l σ) Hb H
  | [], _, _, r, _ => r
  | (i, v, d) :: l, env, σ, r, h => RelS.put (l := l) (r.setV (i := i) (h (i, v, d) List.mem_cons_self)) fun q hq => h q (List.mem_cons_of_mem _ hq)
/-! another base to be kept -/
theorem RelS.rebase {E : Ent U} {env : Env} {u : U} {σ : St} {Hb H B : Hp} (r : RelS C E env u σ Hb H) (h : Ex B Hb) : RelS C { E with Bk := B } env u σ Hb H := ⟨r.rel, r.nxt, r.new, h⟩
theorem RelS.unbase {E : Ent U} {env : Env} {u : U} {σ : St} {Hb H B : Hp} (r : RelS C { E with Bk := B } env u σ Hb H) (h : Ex E.Bk B) : RelS C E env u σ Hb H := ⟨r.rel, r.nxt, r.new, h.trans r.kb⟩
theorem PostS.rebase {E : Ent U} {r : So U} {Z : Ends} {B : Hp} (h : PostS C E r Z) (hB : Ex E.Bk B) : PostS C { E with Bk := B } r Z := by
  cases r with
  | nx env u => exact fun σ Hb H rel => h σ Hb H (rel.unbase hB)
  | bk env u => exact fun σ Hb H rel => h σ Hb H (rel.unbase hB)
  | ct env u => exact fun σ Hb H rel => h σ Hb H (rel.unbase hB)
  | rt d u => exact h
  | ex e env u => exact fun cls dx σ Hb H rel x => h cls dx σ Hb H (rel.unbase hB) x
  | bad => exact h

/-! ### for -/
def forD {U : Type} (fg : D → Env → Option Env) (fb : SF U) : List D → SF U
  | [], env, u => .nx env u
  | d :: ds, env, u => match fg d env with
    | none => .bad
    | some env1 => match fb env1 u with
      | .nx env2 u2 => forD fg fb ds env2 u2
      | .ct env2 u2 => forD fg fb ds env2 u2
      | .bk env2 u2 => .nx env2 u2
      | .rt d u2 => .rt d u2
      | .ex e env2 u2 => .ex e env2 u2
      | .bad => .bad
def fFor {U : Type} (fi : EF U (List D)) (fg : D → Env → Option Env) (fb : SF U) : SF U := fun env u => So.after (fi env u) env fun ds u1 => forD fg fb ds env u1
theorem sim_for {tb : TS} {fb : SF U} (hi : Sim C (RI C) wi fi) (hg : SimG C g fg is) (hb : SimS C tb fb) : SimS C (tFor wi g tb) (fFor fi fg fb) := fun E env u σ Hb H Z rel q =>
  hi env u σ Hb H _ rel.rel (PostS.bind rel q fun ds u1 J Hb1 H1 n r rel1 q1 => by
    obtain ⟨G, Y, w, st, yl⟩ := r
    have hB : Ex E.Bk Hb1 := rel1.kb
    refine for_it w (fun i σ H => ∃ env u Hb', RelS C { E with Bk := Hb1 } env u σ Hb' H ∧ PostS C { E with Bk := Hb1 } (forD fg fb (ds.drop i) env u) Z) ⟨env, u1, Hb1, rel1.rebase (fun _ _ h => h), q1.rebase hB⟩ (fun i σ H _ p => ?_) (fun i x σ H H' hi p y => ?_) fun σ H p => ?_
    · obtain ⟨env, u, Hb', r, _⟩ := p
      exact st Hb' H r.kb r.rel.wf.sub
    · obtain ⟨env, u, Hb', r, q2⟩ := p
      obtain ⟨Hc, d, hd, nx, rd⟩ := yl i x H H' u Hb' hi y r.rel.wf r.kb
      have hlt : i < ds.length := hi
      have ed : ds.drop i = d :: ds.drop (i + 1) := by
        rw [List.drop_eq_getElem_cons hlt]
        congr 1
        rw [List.getElem?_eq_getElem hlt] at hd
        exact Option.some.inj hd
      rw [ed] at q2
      unfold forD at q2
      have r2 := r.next nx
      cases hf : fg d env with
      | none => rw [hf] at q2; exact q2.elim
      | some env1 =>
        rw [hf] at q2
        obtain ⟨l, e1, r3, k⟩ := hg env env1 Hc H' x d hf r2.rel.wf.sub rd
        subst e1
        dsimp only at q2
        refine k σ _ (hb { E with Bk := Hb1 } (putE l env) u (putS l σ) Hc H' _ (r2.put fun q hq => (r3 q hq).1) ?_)
        cases hs : fb (putE l env) u with
        | nx env2 u2 => rw [hs] at q2; exact fun σ' Hb' H' r => ⟨env2, u2, Hb', r, q2⟩
        | ct env2 u2 => rw [hs] at q2; exact fun σ' Hb' H' r => ⟨env2, u2, Hb', r, q2⟩
        | bk env2 u2 => rw [hs] at q2; exact fun σ' Hb' H' r => q2 σ' Hb' H' r
        | rt d u2 => rw [hs] at q2; exact q2
        | ex e env2 u2 => rw [hs] at q2; exact q2
        | bad => rw [hs] at q2; exact q2
    · obtain ⟨env, u, Hb', r, q2⟩ := p
      rw [List.drop_length] at q2
      exact q2 σ Hb' H r)
theorem s_for {body : List Stmt} {tb : TS} {fb : SF U} (hp : PassesOwn (model X.prog X.w) X.A X.env X.xe) (hc : X.calm = true) (hi : XI X C tg e wi fi) (hg : XG X C tg g fg is) (hb : XSs X C body tb fb) (hs : ∀ x, foldedSetIterable e X.env x = pure x := by intro _; rfl) : XS X C (.For tg e body [] pos) (tFor wi g tb) (fFor fi fg fb) := ⟨ps_for hp hc hi.pi hg.pg hb.ps hs, sim_for hi.s hg.s hb.s⟩

/-! ### while -/
def whileD {U : Type} (ft : EF U Bool) (fb : SF U) : Nat → SF U
  | 0, _, _ => .bad
  | n + 1, env, u => So.after (ft env u) env fun b u1 => if b = true then (match fb env u1 with
      | .nx env2 u2 => whileD ft fb n env2 u2
      | .ct env2 u2 => whileD ft fb n env2 u2
      | .bk env2 u2 => .nx env2 u2
      | .rt d u2 => .rt d u2
      | .ex e env2 u2 => .ex e env2 u2
      | .bad => .bad) else .nx env u1
def fWhile {U : Type} (ft : EF U Bool) (fb : SF U) : SF U := whileD ft fb 100000
theorem sim_while {tt : TT} {ft : EF U Bool} {tb : TS} {fb : SF U} (ht : SimT C tt ft) (hb : SimS C tb fb) : SimS C (tWhile tt tb) (fWhile ft fb) := fun E env u σ Hb H Z rel q => by
  refine ⟨fun m σ H => ∃ env u Hb, RelS C E env u σ Hb H ∧ PostS C E (whileD ft fb m env u) Z, ⟨100000, env, u, Hb, rel, q⟩, fun m σ H p => ?_⟩
  obtain ⟨env, u, Hb, r, q⟩ := p
  cases m with
  | zero => exact q.elim
  | succ m =>
    unfold whileD at q
    refine ht env u σ Hb H _ r.rel (PostS.bind r q fun b u1 v Hb1 H1 n rv r1 q1 => ?_)
    have rv : v = b := rv
    subst rv
    cases v with
    | false => exact q1 _ _ _ r1
    | true =>
      refine ⟨fun σ' H' => ∃ env u Hb, RelS C E env u σ' Hb H' ∧ PostS C E (whileD ft fb m env u) Z, fun σ' H' w => ⟨m, Nat.lt_succ_self m, w⟩, ?_⟩
      refine hb E env u1 σ Hb1 H1 _ r1 ?_
      simp only [if_true] at q1
      cases hs : fb env u1 with
      | nx env2 u2 => rw [hs] at q1; exact fun σ' Hb' H' r => ⟨env2, u2, Hb', r, q1⟩
      | ct env2 u2 => rw [hs] at q1; exact fun σ' Hb' H' r => ⟨env2, u2, Hb', r, q1⟩
      | bk env2 u2 => rw [hs] at q1; exact q1
      | rt d u2 => rw [hs] at q1; exact q1
      | ex e env2 u2 => rw [hs] at q1; exact q1
      | bad => rw [hs] at q1; exact q1
theorem s_while {tt : TT} {ft : EF U Bool} {body : List Stmt} {tb : TS} {fb : SF U} (hp : PassesOwn (model X.prog X.w) X.A X.env X.xe) (hc : XT X C c tt ft) (hb : XSs X C body tb fb) : XS X C (.While c body [] pos) (tWhile tt tb) (fWhile ft fb) := ⟨ps_while hp hc.pe hb.ps, sim_while hc.s hb.s⟩

/-! ### iterables -/
def seqD : D → Option (List D)
  | .list ds => some ds
  | .tuple ds => some ds
  | _ => none
def fSeqI {U : Type} (fe : EF U D) : EF U (List D) := fun env u => (fe env u).bind fun d u1 => match d with
  | .list ds => .ok ds u1
  | _ => .bad
def fTupI {U : Type} (fe : EF U D) : EF U (List D) := fun env u => (fe env u).bind fun d u1 => match d with
  | .tuple ds => .ok ds u1
  | _ => .bad
theorem ri_at {xs : List V} {ds : List D} {Hb : Hp} (r : RpL C.K Hb xs ds) : ∀ (i : Nat) (x : V) (Hx Hx' : Hp) (u : U) (Hc : Hp), i < ds.length → YAt xs i Hx x Hx' → Wf C.hp u Hc Hx → Ex Hb Hc → ∃ Hc' d, ds[i]? = some d ∧ Nxt C.hp u u Hc Hx Hc' Hx' ∧ Rp C.K Hc' x d := fun i x Hx Hx' u Hc hi y w e => by
  obtain ⟨e1, e2⟩ := y
  subst e1
  obtain ⟨d, h1, h2⟩ := r.get' e2
  exact ⟨Hc, d, h1, Nxt.refl w, h2.mono e⟩
theorem sim_list (hK : X.K = C.K) (h : SimE C te fe) : Sim C (RI C) (iList X.K te) (fSeqI fe) := fun env u σ Hb H Q rel q => by
  rw [hK]
  refine h env u σ Hb H _ rel (Post.bind q fun d u1 v Hb1 H1 n r h1 => ?_)
  cases r with
  | lst ha rx =>
    rename_i a xs ds
    have hx := n.sub.lst ha
    exact ⟨a, rfl, ⟨xs, SqL.of hx⟩, h1.okI n.wf ⟨fun H => SqL C.K H a xs, YAt xs, by rw [← rx.length]; exact walk_list, fun Hc Hx e s => SqL.of (s.lst (e a _ ha)), ri_at rx⟩⟩
  | non => exact h1.elim
  | bl _ => exact h1.elim
  | int _ => exact h1.elim
  | str _ => exact h1.elim
  | tup _ _ => exact h1.elim
  | dic _ _ => exact h1.elim
  | dit _ _ => exact h1.elim
theorem sim_tupI (hK : X.K = C.K) (h : SimE C te fe) : Sim C (RI C) (iTup X.K te) (fTupI fe) := fun env u σ Hb H Q rel q => by
  rw [hK]
  refine h env u σ Hb H _ rel (Post.bind q fun d u1 v Hb1 H1 n r h1 => ?_)
  cases r with
  | tup ha rx =>
    rename_i a xs ds
    have hx := n.sub.tupl ha
    exact ⟨a, rfl, ⟨xs, SqT.of hx⟩, h1.okI n.wf ⟨fun H => SqT C.K H a xs, YAt xs, by rw [← rx.length]; exact walk_tup, fun Hc Hx e s => SqT.of (s.tupl (e a _ ha)), ri_at rx⟩⟩
  | non => exact h1.elim
  | bl _ => exact h1.elim
  | int _ => exact h1.elim
  | str _ => exact h1.elim
  | lst _ _ => exact h1.elim
  | dic _ _ => exact h1.elim
  | dit _ _ => exact h1.elim
theorem xi_list (hK : X.K = C.K) (h : XE X C e te fe) : XI X C tg e (iList X.K te) (fSeqI fe) := ⟨pi_list h.pe, sim_list hK h.s⟩
theorem xi_tup (hK : X.K = C.K) (h : XE X C e te fe) : XI X C tg e (iTup X.K te) (fTupI fe) := ⟨pi_tup h.pe, sim_tupI hK h.s⟩
/-- range as an iterable -/
def fRngI {U : Type} (f : EF U (Int × Int)) : EF U (List D) := fun env u => (f env u).bind fun p u1 => if rgOk p = true then .ok (rgD p.1 p.2) u1 else .bad
theorem rgD_get {a b : Int} {i : Nat} (h : i < (rgD a b).length) : (rgD a b)[i]? = some (.int (a + (i : Nat))) := by
  unfold rgD at h ⊢
  rw [List.length_map, List.length_range] at h
  rw [List.getElem?_map, List.getElem?_range h]
  rfl
theorem rgD_len (a b : Int) : (rgD a b).length = (b - a).toNat := by
  unfold rgD
  rw [List.length_map, List.length_range]
theorem ri_rg {a b : Int} {H0 : Hp} {u : U} {Hb H : Hp} : RI C H0 u Hb H (Itr a (b - a).toNat) (rgD a b) :=
  ⟨fun _ => True, YFn fun i => .int (a + (i : Nat)), by rw [rgD_len]; exact walk_range, fun _ _ _ _ => trivial, fun i x Hx Hx' u Hc hi y w e => by
    obtain ⟨e1, e2⟩ := y
    subst e1
    subst e2
    exact ⟨Hc, _, rgD_get hi, Nxt.refl w, .int _⟩⟩
def fR1 {U : Type} (fe : EF U D) : EF U (List D) := fun env u => (fI fe env u).bind fun n u1 => if rgOk (0, n) = true then .ok (rgD 0 n) u1 else .bad
def fR2 {U : Type} (fa fb : EF U D) : EF U (List D) := fun env u => (fI fa env u).bind fun i u1 => (fI fb env u1).bind fun j u2 => if rgOk (i, j) = true then .ok (rgD i j) u2 else .bad
theorem rg62 {i j : Int} (h : rgOk (i, j) = true) : -(2 ^ 62) ≤ i ∧ i < 2 ^ 62 ∧ -(2 ^ 62) ≤ j ∧ j < 2 ^ 62 := by
  unfold rgOk at h
  simp only [Bool.and_eq_true, decide_eq_true_eq] at h
  omega
theorem xi_r1 (hg : Gl X "range") (hm : X.mg "range" = none) (ha : XP X C a ta fa) (hs : starEach [a] X.env = [(false, eval a X.env)] := by rfl) (hs' : starEach [a] X.env = (false, eval a X.env) :: starEach [] X.env := by rfl) : XI X C tg (.Call (.Name "range" p) [a] [] pos) (iRng1 (tCons ta tNil)) (fR1 fa) :=
  ⟨pi_range1 hg hm (pa_cons ha.pe pa_nil hs') hs, fun env u σ Hb H Q rel q => sim_I ha.s rel q fun n u1 Hb1 H1 nx h1 => by
    by_cases ho : rgOk (0, n) = true
    · rw [if_pos ho] at h1
      have hz := rg62 ho
      refine ⟨n, rfl, hz.2.2.1, hz.2.2.2, h1.okI nx.wf ?_⟩
      have := ri_rg (C := C) (a := 0) (b := n) (H0 := H) (u := u1) (Hb := Hb1) (H := H1)
      rw [Int.sub_zero] at this
      exact this
    · rw [if_neg ho] at h1
      exact h1.elim⟩
theorem xi_r2 (hg : Gl X "range") (hm : X.mg "range" = none) (ha : XP X C a ta fa) (hb : XP X C b tb fb) (hs : starEach [a, b] X.env = [(false, eval a X.env), (false, eval b X.env)] := by rfl) (hs2 : starEach [b] X.env = [(false, eval b X.env)] := by rfl)
    (hsa : starEach [a, b] X.env = (false, eval a X.env) :: starEach [b] X.env := by rfl) (hsb : starEach [b] X.env = (false, eval b X.env) :: starEach [] X.env := by rfl) : XI X C tg (.Call (.Name "range" p) [a, b] [] pos) (iRng2 (tCons ta (tCons tb tNil))) (fR2 fa fb) :=
  ⟨pi_range2 hg hm (pa_cons ha.pe (pa_cons hb.pe pa_nil hsb) hsa) hs hs2, fun env u σ Hb H Q rel q => sim_I ha.s rel q fun i u1 Hb1 H1 nx h1 => sim_I hb.s (rel.nxt nx) h1 fun j u2 Hb2 H2 nx2 h2 => by
    by_cases ho : rgOk (i, j) = true
    · rw [if_pos ho] at h2
      have hz := rg62 ho
      exact ⟨i, j, rfl, hz, h2.okI nx2.wf ri_rg⟩
    · rw [if_neg ho] at h2
      exact h2.elim⟩

/-! ### enumerate -/
def enumD (ds : List D) : List D := ds.mapIdx fun i d => .tuple [.int (i : Nat), d]
theorem enumD_len (ds : List D) : (enumD ds).length = ds.length := by unfold enumD; rw [List.length_mapIdx]
theorem enumD_get {ds : List D} {i : Nat} {d : D} (h : ds[i]? = some d) : (enumD ds)[i]? = some (.tuple [.int (i : Nat), d]) := by
  unfold enumD
  rw [List.getElem?_mapIdx, h]
  rfl
/-- a new pair at each turn -/
theorem ri_pair {ds : List D} {n : Nat} {xa ya : Nat → Option V} {Hb : Hp} (hp : ∀ (i : Nat) (x y : V) (Hc : Hp), Ex Hb Hc → i < n → xa i = some x → ya i = some y → ∃ dx dy, ds[i]? = some (.tuple [dx, dy]) ∧ Rp C.K Hc x dx ∧ Rp C.K Hc y dy) :
    ∀ (i : Nat) (x : V) (Hx Hx' : Hp) (u : U) (Hc : Hp), i < n → YPair xa ya i Hx x Hx' → Wf C.hp u Hc Hx → Ex Hb Hc → ∃ Hc' d, ds[i]? = some d ∧ Nxt C.hp u u Hc Hx Hc' Hx' ∧ Rp C.K Hc' x d := fun i v Hx Hx' u Hc hi y w e => by
  obtain ⟨T, x, z, ev, hT, e2, hx, hz⟩ := y
  subst ev
  subst e2
  obtain ⟨dx, dy, h1, r1, r2⟩ := hp i x z Hc e hi hx hz
  have nx := Nxt.alloc (o := .tup [x, z]) w hT
  exact ⟨_, _, h1, nx, .tup upd_same (.cons (r1.mono nx.ext) (.cons (r2.mono nx.ext) .nil))⟩
def fEnum {U : Type} (fe : EF U D) : EF U (List D) := fun env u => (fe env u).bind fun d u1 => match d with
  | .list ds => .ok (enumD ds) u1
  | _ => .bad
def fEnumT {U : Type} (fe : EF U D) : EF U (List D) := fun env u => (fe env u).bind fun d u1 => match d with
  | .tuple ds => .ok (enumD ds) u1
  | _ => .bad
theorem sim_enum (hK : X.K = C.K) (h : SimE C te fe) : Sim C (RI C) (iEnum X.K (tCons te tNil)) (fEnum fe) := fun env u σ Hb H Q rel q => by
  rw [hK]
  refine h env u σ Hb H _ rel (Post.bind q fun d u1 v Hb1 H1 n r h1 => ?_)
  cases r with
  | lst ha rx =>
    rename_i a xs ds
    refine ⟨a, xs, rfl, SqL.of (n.sub.lst ha), h1.okI n.wf ⟨fun H => SqL C.K H a xs, YPair (fun i => some (.int (i : Nat))) (fun i => xs[i]?), ?_, fun Hc Hx e s => SqL.of (s.lst (e a _ ha)), ?_⟩⟩
    · rw [enumD_len, ← rx.length]; exact walk_enum
    · refine ri_pair fun i x y Hc e hi hx hy => ?_
      cases hx
      obtain ⟨d, h1, h2⟩ := rx.get' hy
      exact ⟨_, d, enumD_get h1, .int _, h2.mono e⟩
  | non => exact h1.elim
  | bl _ => exact h1.elim
  | int _ => exact h1.elim
  | str _ => exact h1.elim
  | tup _ _ => exact h1.elim
  | dic _ _ => exact h1.elim
  | dit _ _ => exact h1.elim
theorem xi_enum (hK : X.K = C.K) {elts : List Expr} {kk tpos} (hg : Gl X "enumerate") (hm : X.mg "enumerate" = none) (h : XE X C e te fe) (hs : starEach [e] X.env = [(false, eval e X.env)] := by rfl) (hs' : starEach [e] X.env = (false, eval e X.env) :: starEach [] X.env := by rfl) :
    XI X C (.Tuple elts kk tpos) (.Call (.Name "enumerate" p) [e] [] pos) (iEnum X.K (tCons te tNil)) (fEnum fe) := ⟨pi_enum hg hm (pa_cons h.pe pa_nil hs') hs, sim_enum hK h.s⟩
end
/-! enumerate of a tuple -/
set_option maxHeartbeats 1000000 in
theorem enum_new1 {v : Value} {o : Obj} {H : Heap → Prop} (B : Begins v o H) :
    Meets (Builtin.«enumerate.__new__» ⟨[.type "enumerate", v], []⟩) (fun _ R s => H s.heap ∧
      R (.ok (.ret (.ref (s.heap.push o).objs.size))) { s with heap := (s.heap.push o).push { cls := .type "enumerate", data := .fields #[.none, .bool false, .ref s.heap.objs.size, rawInt 0, .none, .none] } }) :=
  .of_wp fun prog w A R s h => by
    obtain ⟨hp, g, d, tk, os⟩ := s
    obtain ⟨ha, hb⟩ := h
    have hsub := sub_enumerate
    have it : ∀ {A2 : Around} {E : Value → Shared → Prop} {Q : Value → Shared → Prop}, Q (.ref hp.objs.size) ⟨hp.push o, g, d, tk, os⟩ → wpAny (model prog w) A2 (pyIter v) Q E ⟨hp, g, d, tk, os⟩ :=
      fun q => B.iter prog w _ _ ⟨hp, g, d, tk, os⟩ _ ha q
    wp_walk using it
    refine wpAny_stack_any fun _ => wpAny_pure ?_
    split
    · rename_i cc _ _ _ _ _
      cases (cc == Value.type "enumerate") <;> (wp_walk using it; exact ⟨_, rfl, hb⟩)
    · wp_walk using it
      exact ⟨_, rfl, hb⟩
theorem enum_call1 {prog : Program} {w : World} {A : Around} {E : Value → Shared → Prop} {s : Shared} {v : Value} {o : Obj} {H : Heap → Prop} {Q : Value → Shared → Prop} (B : Begins v o H) (h1 : H s.heap)
    (h : ∀ h', IsEnum h' (s.heap.objs.size + 1) s.heap.objs.size 0 .none → h'.get? s.heap.objs.size = some o → (∀ b ob, s.heap.get? b = some ob → h'.get? b = some ob) → Q (.ref (s.heap.objs.size + 1)) { s with heap := h' }) :
    wpAny (model prog w) A (call (.type "enumerate") [v]) Q E s := by
  refine callType_new F.called_enumerate (by decide) (F.typeCall_enumerate_1 _) (F.newCall_enumerate_1 _) (fun obj => F.args_object_init_2 obj _) F.entry_enumerate_new (enum_new1 B) ⟨h1, ?_⟩
  have hz : (s.heap.push o).objs.size = s.heap.objs.size + 1 := Heap.size_push ..
  show _ ∧ _
  rw [hz]
  have he := Heap.get?_push_size (s.heap.push o) (o := { cls := .type "enumerate", data := .fields #[.none, .bool false, .ref s.heap.objs.size, rawInt 0, .none, .none] }) rfl
  rw [hz] at he
  exact ⟨⟨_, he, rfl⟩, h _ he (Heap.get?_push_of_some _ (Heap.get?_push_size _ B.free)) fun b ob x => Heap.get?_push_of_some _ (Heap.get?_push_of_some _ x)⟩
def IteT (K : PySem.W.Frag) (a : Addr) : It :=
  ⟨fun i H => ∃ (xs : List V) (x : V), SqT K H a xs ∧ xs[i]? = some x, fun i H v H' => ∃ T x, v = .ref T ∧ H T = none ∧ H' = upd H T (.tup [.int (i : Nat), x]) ∧ ∀ xs, SqT K H a xs → xs[i]? = some x, fun i H => ∃ xs : List V, SqT K H a xs ∧ xs.length = i⟩
theorem walk_enumT {K : PySem.W.Frag} {a : Addr} {xs : List V} : Walk (IteT K a) xs.length (fun H => SqT K H a xs) (YPair (fun i => some (.int (i : Nat))) (fun i => xs[i]?)) := by
  refine ⟨fun i _ hi q => ⟨xs, xs[i], q, by simp [hi]⟩, fun _ q => ⟨xs, q, rfl⟩, fun i H v H' _ q y => ?_⟩
  obtain ⟨T, x, h1, h2, h3, h4⟩ := y
  exact ⟨T, .int (i : Nat), x, h1, h2, h3, rfl, h4 xs q⟩
theorem turn_enumT {P : Program} {w : World} {K : PySem.W.Frag} {elts : List Expr} {kk tpos} (a e it : Addr) :
    Turn P w K (.Tuple elts kk tpos) (IteT K a) [e, it] e (fun i h => (∃ old, IsEnum h e it ((i : Nat) : Int) old) ∧ h.IsTupleIter it a i ∧ e ≠ it ∧ a ≠ it ∧ a ≠ e) where
  mem := by simp
  obj := fun i h st b hb => by
    obtain ⟨⟨old, he⟩, ⟨o, ho, hc, hd⟩, _⟩ := st
    rcases (by simpa using hb : b = e ∨ b = it) with z | z
    · rw [z]; exact ⟨_, he, fun v q => nomatch q⟩
    · rw [z]; exact ⟨o, ho, fun v q => by rw [hd] at q; cases q⟩
  keep := fun i h h' st k => let ⟨⟨old, he⟩, hi, hne⟩ := st; ⟨⟨old, k e (by simp) _ he⟩, hi.at fun o q => k it (by simp) o q, hne⟩
  item := by
    intro X hP hw hK hc i pins s σ H E I hf st hg
    subst hP hw hK
    obtain ⟨⟨old, he⟩, hit, hne, hai, hae⟩ := st
    obtain ⟨xs, x, hq, hx⟩ := hg
    obtain ⟨its, rv, p, hz⟩ := I.tuple hq
    obtain ⟨u, hu, ru⟩ := rv.get hx
    have hsz : i < its.toArray.size := by
      rw [List.size_toArray]; exact (List.getElem?_eq_some_iff.mp hu).1
    have hel : e < s.heap.objs.size := Heap.lt_size he
    have hil : it < s.heap.objs.size := by obtain ⟨_, q, _⟩ := hit; exact Heap.lt_size q
    have W := GoesN.enumFrom (prog := X.prog) (w := X.w) (A := X.A) (elts := elts) (x1 := kk) (pos := tpos) 0 (Draws.tuple (prog := X.prog) (w := X.w) (A := X.A.in1) (I.ok.hd hc) it a hai its.toArray) e hne (by simp [hne, Ne.symm hae]) (by simp)
    refine W.goes i s (fun u s2 => ∃ x H', Inv X pins σ H' s2 ∧ RelV x u ∧ (IteT X.K a).yld i H x H' ∧ ((∃ old, IsEnum s2.heap e it ((i + 1 : Nat) : Int) old) ∧ s2.heap.IsTupleIter it a (i + 1) ∧ e ≠ it ∧ a ≠ it ∧ a ≠ e) ∧ ∀ b ∈ [e, it], H' b = none) E hsz ⟨⟨old, by rw [Int.zero_add]; exact he⟩, hit, p⟩ fun v h' tk hY st' hk _ => ?_
    obtain ⟨T, t, y, ev, hT, hy, hTup⟩ := hY
    obtain ⟨⟨old', he'⟩, hit', _⟩ := st'
    rw [Int.zero_add] at he'
    have ey : y = u := by
      have h1 : its.toArray[i]? = some u := by simpa using hu
      rw [h1] at hy
      exact (Option.some.inj hy).symm
    subst ev
    subst ey
    have hidx : (0 : Int) + (i : Int) = (i : Int) := Int.zero_add _
    have new : ObjOk X.prog X.w (upd H T (.tup [.int (i : Nat), x])) h' T (.tup [.int (i : Nat), x]) := by
      refine ⟨by show 2 ≤ sizeLine; decide, [.int (0 + (i : Int)) t, y], .cons ⟨t, by rw [hidx]⟩ (.cons ru .nil), ?_⟩
      exact hTup
    have I1 : Inv X pins σ (upd H T (.tup [.int (i : Nat), x])) { s with heap := h', toks := tk } :=
      I.turnedNew (ch := [e, it]) (fun b ob hb q => hk b ob hb q) hf hT new
    refine ⟨.ref T, _, I1, rfl, ⟨T, x, rfl, I.hok.fresh hT, rfl, fun ys hy => by rw [I.tuple_inj hy hq]; exact hx⟩, ⟨⟨old', he'⟩, hit', hne, hai, hae⟩, fun b hb => ?_⟩
    have hb' : b < s.heap.objs.size := by
      rcases (by simpa using hb : b = e ∨ b = it) with z | z
      · rw [z]; exact hel
      · rw [z]; exact hil
    rw [upd_ne (Nat.ne_of_lt (Nat.lt_of_lt_of_le hb' hT))]
    exact (hf b hb).1
  done := by
    intro X hP hw hK hc i pins s σ H E I hf st hg
    subst hP hw hK
    obtain ⟨⟨old, he⟩, hit, hne, hai, hae⟩ := st
    obtain ⟨xs, hq, hx⟩ := hg
    obtain ⟨its, rv, p, hz⟩ := I.tuple hq
    have hl := rv.length
    have hi : i = its.toArray.size := by rw [List.size_toArray]; omega
    obtain ⟨f0, f1, f2, f3, f4, f5⟩ := hf it (by simp)
    exact wpAny_pyNext_enum_endD (Draws.tuple (prog := X.prog) (w := X.w) (A := X.A.in1) (I.ok.hd hc) it a hai its.toArray) he (by rw [← hi]; exact ⟨hit, p⟩) fun h' eb => ⟨rfl, I.turned (t' := s.toks) (fun b o hb q => eb b o hb q) f0 f1 f3 f4 f5⟩
  self := fun A i s Q E st h => let ⟨⟨_, he⟩, _⟩ := st; wpAny_pyIter_enum he h
def iEnumT (K : PySem.W.Frag) (ta : TA) : TI := fun σ H R => ta σ H fun vs H1 => ∃ a xs, vs = [.ref a] ∧ SqT K H1 a xs ∧ R (IteT K a) H1
theorem pi_enumT {X : Cx} {e : Expr} {ta : TA} {p pos tpos kk} {elts : List Expr} (hg : Gl X "enumerate") (hm : X.mg "enumerate" = none) (ha : PA X [e] ta) (hs : starEach [e] X.env = [(false, eval e X.env)] := by rfl) :
    PI X (.Tuple elts kk tpos) (.Call (.Name "enumerate" p) [e] [] pos) (iEnumT X.K ta) := by
  refine ⟨fun pins s σ H R I h => ?_⟩
  refine PyProof.Rows.Call_ (ld_blt I hg hm PyProof.Rows.boot_enumerate (PyProof.Rows.callWith_type1 (thn (ha.run pos pins s σ H _ I h) fun us s1 ⟨vs, H1, I1, r1, q1⟩ => ?_) hs rfl))
  obtain ⟨a, xs, ex, hq, q⟩ := q1
  subst ex
  cases r1 with
  | cons r rr =>
    cases rr
    cases r
    obtain ⟨its, rv, p', hz⟩ := I1.tuple hq
    have hal : a < s1.heap.objs.size := by obtain ⟨_, q, _⟩ := id p'; exact Heap.lt_size q
    refine enum_call1 (begins_tuple a its.toArray) p' fun h' he hit hk => wpAny_pyIter_enum he ?_
    have I2 : Inv X pins σ H1 { s1 with heap := h' } := I1.kept (t' := s1.toks) hk
    refine ⟨s1.heap.objs.size + 1, [s1.heap.objs.size + 1, s1.heap.objs.size], _, _, H1, rfl, I2, turn_enumT a (s1.heap.objs.size + 1) s1.heap.objs.size, ⟨⟨.none, he⟩, ⟨_, hit, rfl, rfl⟩, Nat.succ_ne_self _, Nat.ne_of_lt hal, Nat.ne_of_lt (Nat.lt_succ_of_lt hal)⟩, fun b hb => ?_, q⟩
    have hle : s1.heap.objs.size ≤ b := by
      rcases (by simpa using hb : b = s1.heap.objs.size + 1 ∨ b = s1.heap.objs.size) with z | z
      · rw [z]; exact Nat.le_add_right _ _
      · rw [z]; exact Nat.le_refl _
    exact I1.fpOk hle (I1.hok.fresh hle)
section
variable {U : Type} {X : Cx} {C : Ctx U} {e : Expr} {te : TE} {fe : EF U D} {pos p : Pos}
theorem sim_enumT (hK : X.K = C.K) (h : SimE C te fe) : Sim C (RI C) (iEnumT X.K (tCons te tNil)) (fEnumT fe) := fun env u σ Hb H Q rel q => by
  rw [hK]
  refine h env u σ Hb H _ rel (Post.bind q fun d u1 v Hb1 H1 n r h1 => ?_)
  cases r with
  | tup ha rx =>
    rename_i a xs ds
    refine ⟨a, xs, rfl, SqT.of (n.sub.tupl ha), h1.okI n.wf ⟨fun H => SqT C.K H a xs, YPair (fun i => some (.int (i : Nat))) (fun i => xs[i]?), ?_, fun Hc Hx e s => SqT.of (s.tupl (e a _ ha)), ?_⟩⟩
    · rw [enumD_len, ← rx.length]; exact walk_enumT
    · refine ri_pair fun i x y Hc e hi hx hy => ?_
      cases hx
      obtain ⟨d, h1, h2⟩ := rx.get' hy
      exact ⟨_, d, enumD_get h1, .int _, h2.mono e⟩
  | non => exact h1.elim
  | bl _ => exact h1.elim
  | int _ => exact h1.elim
  | str _ => exact h1.elim
  | lst _ _ => exact h1.elim
  | dic _ _ => exact h1.elim
  | dit _ _ => exact h1.elim
theorem xi_enumT (hK : X.K = C.K) {elts : List Expr} {kk tpos} (hg : Gl X "enumerate") (hm : X.mg "enumerate" = none) (h : XE X C e te fe) (hs : starEach [e] X.env = [(false, eval e X.env)] := by rfl) (hs' : starEach [e] X.env = (false, eval e X.env) :: starEach [] X.env := by rfl) :
    XI X C (.Tuple elts kk tpos) (.Call (.Name "enumerate" p) [e] [] pos) (iEnumT X.K (tCons te tNil)) (fEnumT fe) := ⟨pi_enumT hg hm (pa_cons h.pe pa_nil hs') hs, sim_enumT hK h.s⟩
end
end DL

namespace DL
open PySem L2
open Evl (Ex)

/-! ### comprehensions -/
def wipeE (env : Env) : List Nat → Env
  | [] => env
  | v :: vs => (wipeE env vs).set v .non
theorem wipeE_len (env : Env) : ∀ vs : List Nat, (wipeE env vs).length = env.length
  | [] => rfl
  | v :: vs => by unfold wipeE; rw [List.length_set, wipeE_len env vs]
theorem wipe_get (σ : St) (j : Nat) : ∀ vs : List Nat, (wipe σ vs)[j]? = if j ∈ vs ∧ j < σ.length then some none else σ[j]?
  | [] => by simp [wipe]
  | v :: vs => by
    unfold wipe
    by_cases e : v = j
    · subst e
      by_cases hl : v < σ.length
      · rw [List.getElem?_set_self (by rw [wipe_length]; exact hl), if_pos ⟨List.mem_cons_self, hl⟩]
      · rw [List.getElem?_eq_none (by rw [List.length_set, wipe_length]; omega), if_neg (fun z => hl z.2), List.getElem?_eq_none (by omega)]
    · rw [List.getElem?_set_ne e, wipe_get σ j vs]
      have : (j ∈ v :: vs) ↔ j ∈ vs := by
        rw [List.mem_cons]
        exact ⟨fun h => h.resolve_left (fun z => e z.symm), .inr⟩
      simp only [this]
theorem wipeE_get (env : Env) (j : Nat) : ∀ vs : List Nat, (wipeE env vs)[j]? = if j ∈ vs ∧ j < env.length then some .non else env[j]?
  | [] => by simp [wipeE]
  | v :: vs => by
    unfold wipeE
    by_cases e : v = j
    · subst e
      by_cases hl : v < env.length
      · rw [List.getElem?_set_self (by rw [wipeE_len]; exact hl), if_pos ⟨List.mem_cons_self, hl⟩]
      · rw [List.getElem?_eq_none (by rw [List.length_set, wipeE_len]; omega), if_neg (fun z => hl z.2), List.getElem?_eq_none (by omega)]
    · rw [List.getElem?_set_ne e, wipeE_get env j vs]
      have : (j ∈ v :: vs) ↔ j ∈ vs := by
        rw [List.mem_cons]
        exact ⟨fun h => h.resolve_left (fun z => e z.symm), .inr⟩
      simp only [this]
theorem wipe_put {vs : List Nat} : ∀ (l : List (Nat × V × D)) (σ τ : St), (∀ q ∈ l, q.1 ∈ vs) → wipe τ vs = wipe σ vs → wipe (putS l τ) vs = wipe σ vs
  | [], σ, τ, _, e => e
  | (i, v, d) :: l, σ, τ, h, e => wipe_put l σ (τ.set i (some v)) (fun q hq => h q (List.mem_cons_of_mem _ hq)) (by
      rw [← e]
      refine List.ext_getElem? fun j => ?_
      have hi : i ∈ vs := h (i, v, d) List.mem_cons_self
      rw [wipe_get, wipe_get, List.length_set]
      by_cases hj : j ∈ vs ∧ j < τ.length
      · rw [if_pos hj, if_pos hj]
      · rw [if_neg hj, if_neg hj]
        by_cases e2 : i = j
        · subst e2
          have : ¬ i < τ.length := fun z => hj ⟨hi, z⟩
          rw [List.getElem?_eq_none (by rw [List.length_set]; omega), List.getElem?_eq_none (by omega)]
        · rw [List.getElem?_set_ne e2])
theorem wipe_wipe (σ : St) (vs : List Nat) : wipe (wipe σ vs) vs = wipe σ vs := by
  refine List.ext_getElem? fun j => ?_
  rw [wipe_get, wipe_length]
  by_cases hj : j ∈ vs ∧ j < σ.length
  · rw [if_pos hj, wipe_get, if_pos hj]
  · rw [if_neg hj]
section
variable {U : Type} {X : Cx} {C : Ctx U} {tg e a b c elt iter : Expr} {te ta tb tc : TE} {fe fa fb fc : EF U D} {pos p : Pos} {es ifs : List Expr} {wi : TI} {fi : EF U (List D)} {g : TG} {fg : D → Env → Option Env} {is js : List Nat} {tt : TT} {ft : EF U Bool}
variable {env : Env} {u u1 u2 : U} {σ : St} {Hb H Hb1 H1 : Hp}
theorem Rel.wipe (r : Rel C env u σ Hb H) (vs : List Nat) : Rel C (wipeE env vs) u (L2.wipe σ vs) Hb H := by
  have hl := r.len
  refine ⟨r.wf, by rw [wipe_length, wipeE_len, hl], fun j s hs => ?_, fun j k d d' p h1 h2 h3 h4 => ?_⟩
  · rw [wipeE_get] at hs
    rw [wipe_get]
    split at hs
    · cases hs; trivial
    · rename_i h
      rw [if_neg (by rw [hl]; exact h)]
      exact r.slot j s hs
  · have f : ∀ (m : Nat) (d : D), (wipeE env vs)[m]? = some (Slot.own d) → env[m]? = some (Slot.own d) ∧ ¬ (m ∈ vs ∧ m < env.length) := fun m d h => by
      rw [wipeE_get] at h
      split at h
      · cases h
      · rename_i hn; exact ⟨h, hn⟩
    obtain ⟨a1, b1⟩ := f j d h1
    obtain ⟨a2, b2⟩ := f k d' h2
    rw [wipe_get, if_neg (by rw [hl]; exact b1)] at h3
    rw [wipe_get, if_neg (by rw [hl]; exact b2)] at h4
    exact r.dist j k d d' p a1 a2 h3 h4
theorem Nxt.writeO (n : Nxt C.hp u u1 Hb H Hb1 H1) {p : Addr} {o : HO} (h0 : H p = none) (nb : Hb1 p = none) (nw : C.hp u1 p = none) : Nxt C.hp u u1 Hb H Hb1 (upd H1 p o) := by
  refine ⟨n.ext, fun a x h => ?_, n.new, fun a x h h2 => ?_, fun a h => ?_, fun a x h => ?_, n.dom, n.sep⟩
  · rw [upd_ne (fun z => by rw [z, nb] at h; cases h)]
    exact n.sub a x h
  · rw [upd_ne (fun z => by rw [z, h0] at h; cases h)]
    exact n.keep a x h h2
  · by_cases z : a = p
    · rw [z, upd_same]; exact fun z => nomatch z
    · rw [upd_ne z]; exact n.there a h
  · rw [upd_ne (fun z => by rw [z, nw] at h; cases h)]
    exact n.wld a x h
def lcD {U : Type} (fg : D → Env → Option Env) (ft : EF U Bool) (fe : EF U D) (env : Env) : List D → U → Rs U (List D)
  | [], u => .ok [] u
  | d :: ds, u => match fg d env with
    | none => .bad
    | some env1 => match ft env1 u with
      | .ok true u1 => match fe env1 u1 with
        | .ok x u2 => (lcD fg ft fe env ds u2).bind fun xs u3 => .ok (x :: xs) u3
        | _ => .bad
      | .ok false u1 => lcD fg ft fe env ds u1
      | _ => .bad
def fLc {U : Type} (fi : EF U (List D)) (fg : D → Env → Option Env) (ft : EF U Bool) (fe : EF U D) (vs : List Nat) : EF U D := fun env u => (fi env u).bind fun ds u1 =>
  if ds.length ≤ line100 then (lcD fg ft fe (wipeE env vs) ds u1).bind fun xs u2 => .ok (.list xs) u2 else .bad
def fYes {U : Type} : EF U Bool := fun _ u => .ok true u
theorem sim_yes : SimT C tYes fYes := fun env u σ Hb H Q rel q => q.okI rel.wf rfl
theorem post_ok {α β : Type} {Hr : Hp} {r : Rs U α} {Rep : Hp → U → Hp → Hp → β → α → Prop} {Q : β → Hp → Prop} (e : ∃ a u', r = .ok a u' ∧ ∀ v Hb' H', Nxt C.hp u u' Hb H Hb' H' → Rep Hr u' Hb' H' v a → Q v H') : Post C Hr u Hb H σ r Rep Q := by
  obtain ⟨a, u', rfl, h⟩ := e
  exact h
theorem lcD_ex (env0 : Env) : ∀ (ds : List D) (u : U) (e : Exn) (u' : U), lcD fg ft fe env0 ds u ≠ .ex e u'
  | [], u, e, u', h => by cases h
  | d :: ds, u, e, u', h => by
    unfold lcD at h
    split at h
    · cases h
    · split at h
      · split at h
        · rename_i u2 _
          cases hr : lcD fg ft fe env0 ds u2 with
          | ok xs u3 => rw [hr] at h; cases h
          | ex e2 u3 => exact lcD_ex env0 ds u2 e2 u3 hr
          | bad => rw [hr] at h; cases h
        · cases h
      · exact lcD_ex env0 ds _ e u' h
      · cases h
theorem sim_lc {vs : List Nat} (hi : Sim C (RI C) wi fi) (hg : SimG C g fg is) (hv : ∀ i ∈ is, i ∈ vs) (ht : SimT C tt ft) (he : SimE C te fe) : SimN C (tLc wi g tt te vs) (fLc fi fg ft fe vs) := fun env u σ Hb H Q rel q => by
  refine hi env u σ Hb H _ rel (Post.bind q fun ds u1 J Hb1 H1 n r h1 => fun Dl hD => ?_)
  obtain ⟨G, Y, w, st, yl⟩ := r
  by_cases hz : ds.length ≤ line100
  rotate_left
  · rw [if_neg hz] at h1; exact h1.elim
  rw [if_pos hz] at h1
  have fr := n.wf.fresh hD
  cases hall : lcD fg ft fe (wipeE env vs) ds u1 with
  | bad => rw [hall] at h1; exact h1.elim
  | ex e u' => exact (lcD_ex _ _ _ _ _ hall).elim
  | ok xs ue =>
    rw [hall] at h1
    refine lc_it w (fun i H' => ∃ u2 Hb2 acc dn rest, Nxt C.hp u1 u2 Hb1 H1 Hb2 H' ∧ H' Dl = some (.lst acc) ∧ Hb2 Dl = none ∧ C.hp u2 Dl = none ∧ RpL C.K Hb2 acc dn ∧ acc.length ≤ i ∧ lcD fg ft fe (wipeE env vs) (ds.drop i) u2 = .ok rest ue ∧ dn ++ rest = xs)
      ⟨u1, Hb1, [], [], xs, Nxt.allocO n.wf hD, upd_same, fr.1, fr.2, .nil, Nat.le_refl _, hall, rfl⟩ (fun i H' _ p => ?_) (fun i x Ha H' hlt p y => ?_) (fun H' p => ?_)
    · obtain ⟨u2, Hb2, acc, dn, rest, nx, _⟩ := p
      exact st Hb2 H' nx.ext nx.sub
    · obtain ⟨u2, Hb2, acc, dn, rest, nx, hDl, nb, nw, ra, la, hl, ed⟩ := p
      obtain ⟨Hc, d, hd, n2, rd⟩ := yl i x Ha H' u2 Hb2 hlt y nx.wf nx.ext
      have hlt : i < ds.length := hlt
      have edr : ds.drop i = d :: ds.drop (i + 1) := by
        rw [List.drop_eq_getElem_cons hlt]
        congr 1
        rw [List.getElem?_eq_getElem hlt] at hd
        exact Option.some.inj hd
      rw [edr] at hl
      unfold lcD at hl
      have n02 := nx.trans n2
      have hDa : Ha Dl ≠ none := by rw [hDl]; exact fun z => nomatch z
      have hDl2 := n2.keep Dl _ hDl nw
      have nb2 := n2.new Dl hDa nb
      have rel2 : Rel C (wipeE env vs) u2 (L2.wipe σ vs) Hc H' := (rel.nxt (n.trans n02)).wipe vs
      cases hf : fg d (wipeE env vs) with
      | none => rw [hf] at hl; cases hl
      | some env1 =>
        rw [hf] at hl
        dsimp only at hl
        obtain ⟨l, e1, r3, k⟩ := hg _ env1 Hc H' x d hf n2.sub rd
        subst e1
        refine k (L2.wipe σ vs) _ ⟨wipe_put l σ _ (fun q hq => hv _ (r3 q hq).2) (wipe_wipe σ vs), ?_⟩
        have rel3 := rel2.put fun q hq => (r3 q hq).1
        have hDl2' : H' Dl ≠ none := by rw [hDl2]; exact fun z => nomatch z
        cases hft : ft (putE l (wipeE env vs)) u2 with
        | bad => rw [hft] at hl; cases hl
        | ex e u' => rw [hft] at hl; cases hl
        | ok b u3 =>
          rw [hft] at hl
          refine ht _ u2 _ Hc H' _ rel3 (post_ok ⟨b, u3, hft, fun b' Hd Hy n3 eb => ?_⟩)
          have eb : b' = b := eb
          subst eb
          have n03 := n02.trans n3
          have hDl3 := n3.keep Dl _ hDl2 nw
          have nb3 := n3.new Dl hDl2' nb2
          have nw3 := n3.dom Dl hDl2' nw
          have ra3 := ra.mono (n2.ext.trans n3.ext)
          cases b' with
          | false =>
            dsimp only at hl
            exact ⟨u3, Hd, acc, dn, rest, n03, hDl3, nb3, nw3, ra3, Nat.le_succ_of_le la, hl, ed⟩
          | true =>
            dsimp only at hl
            cases hfe : fe (putE l (wipeE env vs)) u3 with
            | bad => rw [hfe] at hl; cases hl
            | ex e u' => rw [hfe] at hl; cases hl
            | ok z u4 =>
              rw [hfe] at hl
              dsimp only at hl
              cases hrest : lcD fg ft fe (wipeE env vs) (ds.drop (i + 1)) u4 with
              | bad => rw [hrest] at hl; cases hl
              | ex e u' => rw [hrest] at hl; cases hl
              | ok zs u5 =>
                rw [hrest] at hl
                cases hl
                simp only [if_true]
                refine he _ u3 _ Hd Hy _ (rel3.nxt n3) (post_ok ⟨z, u4, hfe, fun yv He Hz n4 ry => ?_⟩)
                have hDl3' : Hy Dl ≠ none := by rw [hDl3]; exact fun z => nomatch z
                have hDl4 := n4.keep Dl _ hDl3 nw3
                have nb4 := n4.new Dl hDl3' nb3
                have nw4 := n4.dom Dl hDl3' nw3
                refine ⟨acc, hDl4, line_lt (by omega), u4, He, acc ++ [yv], dn ++ [z], zs, (n03.trans n4).writeO hD nb4 nw4, upd_same, nb4, nw4, (ra3.mono n4.ext).append (RpL.one ry), by rw [List.length_append, List.length_singleton]; omega, hrest, ?_⟩
                rw [List.append_assoc]
                exact ed
    · obtain ⟨u2, Hb2, acc, dn, rest, nx, hDl, nb, nw, ra, la, hl, ed⟩ := p
      rw [List.drop_length] at hl
      unfold lcD at hl
      cases hl
      rw [List.append_nil] at ed
      subst ed
      exact h1 _ _ _ nx ⟨Dl, rfl, n.back hD, nb, nw, _, hDl, .lst ra⟩
variable [Inhabited Shared]
structure XTs (X : Cx) (C : Ctx U) (ifs : List Expr) (tt : TT) (ft : EF U Bool) : Prop where
  pe : PTs X ifs tt
  s : SimT C tt ft
omit [Inhabited Shared] in
theorem xts_nil : XTs X C [] tYes fYes := ⟨pts_nil, sim_yes⟩
omit [Inhabited Shared] in
theorem xts_one (h : XT X C c tt ft) : XTs X C [c] tt ft := ⟨pts_one h.pe, h.s⟩
theorem xn_lc {scope : Scope} {own : List (Str × Nat)} (hc : X.calm = true) (hN : X.N.Nodup) (hi : XI X C tg iter wi fi) (ok : BlkOk X.N X.env.scope scope own)
    (hg : ∀ (s : Shared) (H : Hp) (A : Addr) (cl : List (Str × Addr)) (fp : List Addr), XG (X.blk s H scope (compEnvC scope cl A X.env) fp) C tg g fg is)
    (ht : ∀ (s : Shared) (H : Hp) (A : Addr) (cl : List (Str × Addr)) (fp : List Addr), XTs (X.blk s H scope (compEnvC scope cl A X.env) fp) C ifs tt ft)
    (he : ∀ (s : Shared) (H : Hp) (A : Addr) (cl : List (Str × Addr)) (fp : List Addr), XE (X.blk s H scope (compEnvC scope cl A X.env) fp) C elt te fe)
    (hv : ∀ i ∈ is, i ∈ own.map (·.2) := by decide) (hs : ∀ x, foldedSetIterable iter X.env x = pure x := by intro _; rfl) :
    XN X C (.ListComp elt [⟨tg, iter, ifs, 0⟩] scope pos) (tLc wi g tt te (own.map (·.2))) (fLc fi fg ft fe (own.map (·.2))) :=
  ⟨pe_lc hc hN hi.pi ok (fun s H A cl fp => (hg s H A cl fp).pg) (fun s H A cl fp => (ht s H A cl fp).pe) (fun s H A cl fp => (he s H A cl fp).pe) hs,
    sim_lc hi.s (hg default default default default default).s hv (ht default default default default default).s (he default default default default default).s⟩
/-- name = [..] -/
theorem s_setLc (i : Nat) {y : Str} {py spos : Pos} {scope : Scope} {own : List (Str × Nat)} (hc : X.calm = true) (hN : X.N.Nodup) (hi : XI X C tg iter wi fi) (ok : BlkOk X.N X.env.scope scope own)
    (hg : ∀ (s : Shared) (H : Hp) (A : Addr) (cl : List (Str × Addr)) (fp : List Addr), XG (X.blk s H scope (compEnvC scope cl A X.env) fp) C tg g fg is)
    (ht : ∀ (s : Shared) (H : Hp) (A : Addr) (cl : List (Str × Addr)) (fp : List Addr), XTs (X.blk s H scope (compEnvC scope cl A X.env) fp) C ifs tt ft)
    (he : ∀ (s : Shared) (H : Hp) (A : Addr) (cl : List (Str × Addr)) (fp : List Addr), XE (X.blk s H scope (compEnvC scope cl A X.env) fp) C elt te fe)
    (hsw : swapsWith (.ListComp elt [⟨tg, iter, ifs, 0⟩] scope pos) (some (.Name y py)) spos.line X.env = pure true)
    (hy : X.N[i]? = some y := by rfl) (hyl : X.env.scope.names.lookup y = some .local := by rfl)
    (hv : ∀ i ∈ is, i ∈ own.map (·.2) := by decide) (hs : ∀ x, foldedSetIterable iter X.env x = pure x := by intro _; rfl) :
    XS X C (.Assign [.Name y py] (.ListComp elt [⟨tg, iter, ifs, 0⟩] scope pos) spos) (tAsg (tLc wi g tt te (own.map (·.2))) (gName i)) (fAsg i (fLc fi fg ft fe (own.map (·.2)))) :=
  ⟨ps_setLc hc hN hy hyl hsw hi.pi ok (fun s H A cl fp => (hg s H A cl fp).pg) (fun s H A cl fp => (ht s H A cl fp).pe) (fun s H A cl fp => (he s H A cl fp).pe) hs,
    sim_asg (sim_lc hi.s (hg default default default default default).s hv (ht default default default default default).s (he default default default default default).s).e⟩
theorem s_setLcO (i : Nat) {y : Str} {py spos : Pos} {scope : Scope} {own : List (Str × Nat)} (hc : X.calm = true) (hN : X.N.Nodup) (hi : XI X C tg iter wi fi) (ok : BlkOk X.N X.env.scope scope own)
    (hg : ∀ (s : Shared) (H : Hp) (A : Addr) (cl : List (Str × Addr)) (fp : List Addr), XG (X.blk s H scope (compEnvC scope cl A X.env) fp) C tg g fg is)
    (ht : ∀ (s : Shared) (H : Hp) (A : Addr) (cl : List (Str × Addr)) (fp : List Addr), XTs (X.blk s H scope (compEnvC scope cl A X.env) fp) C ifs tt ft)
    (he : ∀ (s : Shared) (H : Hp) (A : Addr) (cl : List (Str × Addr)) (fp : List Addr), XE (X.blk s H scope (compEnvC scope cl A X.env) fp) C elt te fe)
    (hsw : swapsWith (.ListComp elt [⟨tg, iter, ifs, 0⟩] scope pos) (some (.Name y py)) spos.line X.env = pure true)
    (hy : X.N[i]? = some y := by rfl) (hyl : X.env.scope.names.lookup y = some .local := by rfl)
    (hv : ∀ i ∈ is, i ∈ own.map (·.2) := by decide) (hs : ∀ x, foldedSetIterable iter X.env x = pure x := by intro _; rfl) :
    XS X C (.Assign [.Name y py] (.ListComp elt [⟨tg, iter, ifs, 0⟩] scope pos) spos) (tAsg (tLc wi g tt te (own.map (·.2))) (gName i)) (fAsgO i (fLc fi fg ft fe (own.map (·.2)))) :=
  ⟨ps_setLc hc hN hy hyl hsw hi.pi ok (fun s H A cl fp => (hg s H A cl fp).pg) (fun s H A cl fp => (ht s H A cl fp).pe) (fun s H A cl fp => (he s H A cl fp).pe) hs,
    sim_asgO (sim_lc hi.s (hg default default default default default).s hv (ht default default default default default).s (he default default default default default).s)⟩
end
end DL

namespace DL
open PySem L2
open Evl (Ex)

/-! ### a def's promise, where no guard stands -/
structure FnG (P : Program) (w : World) (K : PySem.W.Frag) (mg : Str → Option Value) (base : Heap) (k : Nat) (f : Addr) (fd : FuncData) (ps : List Str) (sp : Sp) : Prop where
  len : ∀ vs H Q E, sp vs H Q E → vs.length = ps.length
  run : ∀ (A : Around) (outer : List PySem.Env) (s : Shared) (H : Hp) (args : Args) (us : List Value) (vs : List V) (Q : VK) (E : XK), A.guards = some [] → Room k A → Env0 P w K mg base A outer s H →
    BindsTo s fd args (ps.zip us) → Vals vs us → sp vs H Q E → codeAny (model P w) A (.call (.ref f) args) (CR (L2.CX P w) outer P w H s Q E) s
theorem FnG.mono {P : Program} {w : World} {K : PySem.W.Frag} {mg : Str → Option Value} {base : Heap} {j k : Nat} {f : Addr} {fd : FuncData} {ps : List Str} {sp : Sp} (F : FnG P w K mg base j f fd ps sp) (h : j ≤ k) : FnG P w K mg base k f fd ps sp :=
  ⟨F.len, fun A outer s H args us vs Q E hg hr => F.run A outer s H args us vs Q E hg (hr.mono h)⟩
/-- the body's context -/
abbrev bodyX (P : Program) (w : World) (K : PySem.W.Frag) (mg : Str → Option Value) (base : Heap) (N : List Str) (qual : Str) (st : Stmt) (f : Addr) (cd : Value) (A : Around) (outer : List PySem.Env) (s : Shared) (H : Hp) (E : XK) : Cx :=
  cxOf (L2.CX P w) P w K mg base N qual (defScope st) f cd A outer s H E
section
open PySem.Spec PyProof.Rows
theorem fnG_of {P : Program} {w : World} {K : PySem.W.Frag} {mg : Str → Option Value} {base : Heap} {x qual : Str} {st : Stmt} {f : Addr} {fd : FuncData} {N ps : List Str} {k : Nat} {sp : Sp}
    (F : Fun K x qual st f fd) (S : FnScope N ps (defScope st)) (len : ∀ vs H Q E, sp vs H Q E → vs.length = ps.length)
    (hbody : ∀ (cdv : Value) (A : Around) (outer : List PySem.Env) (s : Shared) (H : Hp) (vs : List V) (Q : VK) (E : XK), A.guards = some [] → Room k (A.deeper (envOfC qual (defScope st) s.heap.objs.size f cdv)) → sp vs H Q E →
      ∃ t, PSs (bodyX P w K mg base N qual st f cdv A outer s H E) (defBody st) t ∧ t { nx := fun _ H' => Q .non H', rt := Q } (start N vs) H) :
    FnG P w K mg base (k + 1) f fd ps sp := by
  obtain ⟨oc, od, kV, doc, pm, an, cdv, ct, osl, rfl, lk, hcd⟩ := F.ex
  refine ⟨len, fun A outer s H args us vs Q E hgu hr e0 hb r hsp => ?_⟩
  have hlen := len _ _ _ _ hsp
  have kin : K.In s.heap := e0.mod.kin.keeps fun b o e => (e0.bs b o e).1
  have nolim : s.heap.NoLimit := e0.mod.nolimit.keeps fun b o e => (e0.bs b o e).1
  have kinds : ∀ y ∈ ps.zip us, (defScope st).names.lookup y.1 = some .local ∨ ((defScope st).names.lookup y.1 = some .cell ∧ ((cellsFrom (s.heap.objs.size + 1) (defScope st).names []).lookup y.1).isSome = true) := by
    rintro ⟨n, v⟩ hy
    cases S.par n (List.of_mem_zip hy).1 with
    | inl q => exact .inl q
    | inr q => exact .inr ⟨q, PySem.W.cellsFrom_some _ _ _ (.inl q)⟩
  refine codeAny_call_function hr.depth (kin _ _ lk) rfl S.co S.gen rfl (PySem.W.codeRec_of kin hcd) (hb _ _ _ _ ?_)
  refine wpAny_newFunctionEnv_cells S.kind kinds fun env he s1 hx => ?_
  subst he
  refine ⟨nolim.keeps hx.toInCall.keep, codeAny_func ?_⟩
  obtain ⟨t, ht, hq⟩ := hbody cdv A outer s H vs Q E hgu (hr.deeper _) hsp
  have I : Inv (bodyX P w K mg base N qual st f cdv A outer s H E) [] (start N vs) H s1 := inv_start S hr.hd e0 hlen r hx
  have done : ∀ {s' : Shared} {σ' : L2.St} {H' : Hp} {v : V} {u : Value}, Inv (bodyX P w K mg base N qual st f cdv A outer s H E) [] σ' H' s' → RelV v u → Q v H' → CE outer P w H s Q u s' :=
    fun {s' σ' H' v u} J rv q => ⟨v, H', J.os, J.bare, J.base, J.hok, rv, q⟩
  refine wpAny_mono (ht.run [] s1 (start N vs) H _ I hq) ?_ fun e s' hs => hs
  intro fl s' hs
  cases fl with
  | next =>
    obtain ⟨σ', H', J, q⟩ := hs
    exact done (v := V.non) (u := Value.none) J rfl q
  | ret u =>
    obtain ⟨v, σ', H', J, rv, q⟩ := hs
    exact done J rv q
  | cont => exact hs.choose_spec.choose_spec.2.elim
  | brk => exact hs.choose_spec.choose_spec.2.elim
end

/-! ### a call of it -/
/-- f(..); W: what is wanted of an exception -/
def tCallG (sp : Sp) (W : WX) (t : TA) : TE := fun σ H Q => t σ H fun vs H1 => sp vs H1 Q fun cls d H' => W cls d σ H'
section
open PySem.Spec PyProof.Rows
variable {X : Cx} {k : Nat} {f : Addr} {fd : FuncData} {ps : List Str} {sp : Sp} {W : WX} {x : Str} {p pos : Pos} {e : Expr} {es : List Expr} {t : TA}
theorem run_g {pins : List (Addr × Obj)} {σ : L2.St} {H : Hp} {s : Shared} {Q : VK} {us : List Value} {vs : List V} (F : FnG X.prog X.w X.K X.mg X.base k f fd ps sp) (hgu : X.A.guards = some []) (hr : Room k X.A) (hb : Binds X.K fd ps []) (tk : L2.Takes X W)
    (I : Inv X pins σ H s) (r : Vals vs us) (h : sp vs H Q fun cls d H' => W cls d σ H') : wpAny (model X.prog X.w) X.A (call (.ref f) us) (EP X pins σ Q) X.xe s := by
  have hl : us.length = ps.length := by
    rw [← r.length]
    exact F.len _ _ _ _ h
  have hb' := hb s us I.kIn (by rw [List.append_nil]; exact hl)
  rw [List.append_nil] at hb'
  refine wpAny_call (codeAny_mono (F.run X.A X.stack s H ⟨us, []⟩ us vs Q _ hgu hr I.env0 hb' r h) fun r s' hq => ?_)
  cases r with
  | error e => exact tk e s' (XE.of_call I (fun cls d H' z => z) hq)
  | ok fl =>
    cases fl with
    | ret u => exact I.after hq
    | next => exact hq.elim
    | brk => exact hq.elim
    | cont => exact hq.elim
theorem pe_callG (F : FnG X.prog X.w X.K X.mg X.base k f fd ps sp) (hgu : X.A.guards = some []) (hr : Room k X.A) (hg : Gl X x) (hm : X.mg x = some (.ref f)) (hk : PySem.W.keepIn X.K (.ref f) = true) (hb : Binds X.K fd ps []) (tk : L2.Takes X W)
    (ha : PA X (e :: es) t) (hdb : (x == ("__debug__" : Str)) = false := by decide) (he : starEach (e :: es) X.env = (false, eval e X.env) :: starEach es X.env := by rfl) (hpl : (backTo pos (starEach es X.env)).any (·.1) = false := by rfl) :
    PE X (.Call (.Name x p) (e :: es) [] pos) (tCallG sp W t) := by
  refine ⟨fun pins s σ H Q I h => wpAny_Call_Name_kw (ld_glob I hg hm ?_ hdb)⟩
  refine PySem.W.callWith_K (h₀ := X.base) I.ok.mod.kin hk (thn (ha.run pos pins s σ H _ I h) ?_) he hpl
  rintro us s1 ⟨vs, H1, I1, r, q⟩
  exact ⟨I1.kIn, run_g F hgu hr hb tk I1 r q⟩
theorem pe_callG0 (F : FnG X.prog X.w X.K X.mg X.base k f fd ps sp) (hgu : X.A.guards = some []) (hr : Room k X.A) (hg : Gl X x) (hm : X.mg x = some (.ref f)) (hk : PySem.W.keepIn X.K (.ref f) = true) (hb : Binds X.K fd ps []) (tk : L2.Takes X W)
    (hdb : (x == ("__debug__" : Str)) = false := by decide) : PE X (.Call (.Name x p) [] [] pos) (tCallG sp W tNil) := by
  refine ⟨fun pins s σ H Q I h => wpAny_Call_Name_kw (ld_glob I hg hm ?_ hdb)⟩
  exact PySem.W.callWith_K0 I.kIn hk (run_g (us := []) F hgu hr hb tk I .nil h)
end

/-! ### repr -/
theorem callr_repr {X : Cx} (hgu : X.A.guards = some []) (hu : X.A.units + 64 < cLine) :
    CallR X (.builtin "repr") (fun xs H Q => ∃ x d, xs = [x] ∧ Dp X.K H x d ∧ d.showable = true ∧ d.hasDict = false ∧ d.depth ≤ 60 ∧ d.shown.length ≤ sizeLine ∧ Q (.str d.shown) H) := by
  intro pins s σ H xs us Q I rv h
  obtain ⟨x, d, rfl, hd, hs, hnd, hdep, hlen, q⟩ := h
  obtain ⟨u, rfl, r⟩ := vals1 rv
  have scal : ∀ t, EP X pins σ Q (.str d.shown t) { s with toks := s.toks + 1 } := fun t => ⟨.str d.shown, H, I.tok _, ⟨_, rfl⟩, q⟩
  cases hd with
  | non =>
    cases r
    exact PySem.P.repr_of_none (scal _)
  | bl b =>
    cases r
    exact PySem.P.repr_of_bool (by cases b <;> exact scal _)
  | int i =>
    obtain ⟨t, rfl⟩ := r
    exact PySem.P.repr_of_int (of_decide_eq_true (by simpa [PyData.showable] using hs)) (scal _)
  | str z =>
    obtain ⟨t, rfl⟩ := r
    exact PySem.P.repr_of_str (scal _) hlen
  | lst h1 h2 =>
    obtain ⟨as, rd⟩ := Dp.reads I _ _ _ (.lst h1 h2) r
    cases r
    exact PySem.repr_of_reads' rd hs (PyData.noDict_hsm hnd) hgu (by omega) (fun _ _ e => e) (fun h' u tk hk => ⟨.str _, H, I.kept hk, ⟨u, rfl⟩, q⟩) hlen
  | tup h1 h2 =>
    obtain ⟨as, rd⟩ := Dp.reads I _ _ _ (.tup h1 h2) r
    cases r
    exact PySem.repr_of_reads' rd hs (PyData.noDict_hsm hnd) hgu (by omega) (fun _ _ e => e) (fun h' u tk hk => ⟨.str _, H, I.kept hk, ⟨u, rfl⟩, q⟩) hlen
def showOk (d : D) : Bool := d.showable && !d.hasDict && decide (d.depth ≤ 60) && decide (d.shown.length ≤ sizeLine)
def reprD : List D → Option D
  | [d] => if showOk d = true then some (.str d.shown) else none
  | _ => none
section
variable {U : Type} {X : Cx} {C : Ctx U}
theorem calls_repr (hK : X.K = C.K) : CallS C (fun xs H Q => ∃ x d, xs = [x] ∧ Dp X.K H x d ∧ d.showable = true ∧ d.hasDict = false ∧ d.depth ≤ 60 ∧ d.shown.length ≤ sizeLine ∧ Q (.str d.shown) H) reprD := fun vs ds d u Hb H Q e w rx q => by
  unfold reprD at e
  split at e
  · split at e
    · rename_i x h
      cases e
      obtain ⟨v, ev, r⟩ := rx.one
      unfold showOk at h
      simp only [Bool.and_eq_true, Bool.not_eq_true', decide_eq_true_eq] at h
      obtain ⟨⟨⟨h1, h2⟩, h3⟩, h4⟩ := h
      exact ⟨v, x, ev, by rw [hK]; exact r.dp w h2, h1, h2, h3, h4, q _ Hb H (Nxt.refl w) (.str _)⟩
    · cases e
  · cases e
end

/-! ### the law's source of numbers as the world -/
structure Src where
  cells : List Int
  left : Int
  mixed : Int
  turn : Int
def srcD (c : Addr) (u : Src) : List (Key × V) := [(.inr "cells", .ref c), (.inr "left", .int u.left), (.inr "mixed", .int u.mixed), (.inr "turn", .int u.turn)]
def srcHp (s c : Addr) (u : Src) : Hp := fun a => if a = s then some (.dK (srcD c u)) else if a = c then some (.lst (u.cells.map V.int)) else none
abbrev XR := Exn → Value → Option Addr → Hp → Hp → Prop
def Cw (K : PySem.W.Frag) (xr : XR) (W : WX) (s c : Addr) : Ctx Src := ⟨K, srcHp s c, .ref s, xr, W⟩
abbrev wE (E : XK) : WX := fun cls d _ H => E cls d H
/-- what a def promises: m tells the outcome by the arguments' data and the world -/
def SpD (K : PySem.W.Frag) (xr : XR) (n : Nat) (m : List Arg → Src → Rs Src D) : Sp := fun vs H Q E => vs.length = n ∧ ∃ (s c : Addr) (u : Src) (Hb : Hp) (as : List Arg), s ≠ c ∧ Wf (srcHp s c) u Hb H ∧ ArgsR (Cw K xr (wE E) s c) Hb vs as ∧
  Post (Cw K xr (wE E) s c) H u Hb H [] (m as u) (RE (Cw K xr (wE E) s c)) Q
def Arg.slot : Arg → Slot
  | .d x => .val x
  | .tok => .tok
def startE (N : Nat) (as : List Arg) : Env := as.map Arg.slot ++ List.replicate (N - as.length) .non
def fnD (N : Nat) (f : SF Src) : List Arg → Src → Rs Src D := fun as u => match f (startE N as) u with
  | .rt d u' => .ok d u'
  | .nx _ u' => .ok .none u'
  | .ex e _ u' => .ex e u'
  | _ => .bad
theorem ArgsR.length {U : Type} {C : Ctx U} {Hb : Hp} : ∀ {vs : List V} {as : List Arg}, ArgsR C Hb vs as → vs.length = as.length
  | _, _, .nil => rfl
  | _, _, .cons _ r => by rw [List.length_cons, List.length_cons, r.length]
theorem ArgsR.get {U : Type} {C : Ctx U} {Hb : Hp} : ∀ {vs : List V} {as : List Arg} {i : Nat} {a : Arg}, ArgsR C Hb vs as → as[i]? = some a → ∃ v, vs[i]? = some v ∧ ArgR C Hb v a
  | _, _, _, _, .nil, e => by simp at e
  | _, _, 0, _, .cons h _, e => by
    simp at e
    subst e
    exact ⟨_, rfl, h⟩
  | _, _, i + 1, a, .cons _ r, e => by
    obtain ⟨v, h1, h2⟩ := ArgsR.get (i := i) (a := a) r (by simpa using e)
    exact ⟨v, by simpa using h1, h2⟩
theorem startE_get {N : Nat} {as : List Arg} {i : Nat} {s : Slot} (h : (startE N as)[i]? = some s) : s = .non ∨ ∃ a, as[i]? = some a ∧ s = a.slot := by
  unfold startE at h
  by_cases hi : i < as.length
  · rw [List.getElem?_append_left (by simpa using hi), List.getElem?_map] at h
    cases e : as[i]? with
    | none => rw [e] at h; cases h
    | some a => rw [e] at h; cases h; exact .inr ⟨a, rfl, rfl⟩
  · rw [List.getElem?_append_right (by simpa using hi)] at h
    rw [List.getElem?_replicate] at h
    split at h <;> cases h
    exact .inl rfl
theorem rel_start {U : Type} {C : Ctx U} {N : List Str} {u : U} {Hb H : Hp} {vs : List V} {as : List Arg} (w : Wf C.hp u Hb H) (r : ArgsR C Hb vs as) : Rel C (startE N.length as) u (start N vs) Hb H := by
  have noOwn : ∀ {i : Nat} {d : D}, (startE N.length as)[i]? ≠ some (.own d) := fun {i d} h => by
    rcases startE_get h with z | ⟨a, _, z⟩
    · cases z
    · cases a <;> cases z
  refine ⟨w, by simp [L2.start, startE, r.length], fun i s h => ?_, fun i j d d' p h => absurd h noOwn⟩
  rcases startE_get h with rfl | ⟨a, ha, rfl⟩
  · trivial
  · obtain ⟨v, hv, ra⟩ := r.get ha
    have e : (start N vs)[i]? = some (some v) := by
      have hi : i < vs.length := (List.getElem?_eq_some_iff.mp hv).1
      unfold L2.start
      rw [List.getElem?_append_left (by simpa using hi), List.getElem?_map, hv]
      rfl
    rw [e]
    cases a with
    | d x => exact ⟨v, rfl, ra⟩
    | tok => exact congrArg some ra
theorem fnD_of {P : Program} {w : World} {K : PySem.W.Frag} {mg : Str → Option Value} {base : Heap} {x qual : Str} {st : Stmt} {f : Addr} {fd : FuncData} {N ps : List Str} {k n : Nat} {xr : XR} {m : SF Src}
    (F : Fun K x qual st f fd) (S : FnScope N ps (defScope st)) (hn : ps.length = n)
    (hbody : ∀ (cdv : Value) (A : Around) (outer : List PySem.Env) (s0 : Shared) (H : Hp) (E : XK), A.guards = some [] → Room k (A.deeper (PyProof.Rows.envOfC qual (defScope st) s0.heap.objs.size f cdv)) →
      ∃ t, ∀ s c : Addr, s ≠ c → XSs (bodyX P w K mg base N qual st f cdv A outer s0 H E) (Cw K xr (wE E) s c) (defBody st) t m) :
    FnG P w K mg base (k + 1) f fd ps (SpD K xr n (fnD N.length m)) := by
  subst hn
  refine fnG_of F S (fun vs H Q E h => h.1) fun cdv A outer s0 H vs Q E hgu hr h => ?_
  obtain ⟨_, s, c, u, Hb, as, hne, wf, ar, q⟩ := h
  obtain ⟨t, ht⟩ := hbody cdv A outer s0 H E hgu hr
  refine ⟨t, (ht s c hne).ps, (ht s c hne).s ⟨u, Hb, H, Hb⟩ (startE N.length as) u (start N vs) Hb H _ ⟨rel_start wf ar, Nxt.refl wf, fun p ⟨i, d, hi, _⟩ => ?_, fun _ _ e => e⟩ ?_⟩
  · rcases startE_get hi with z | ⟨a, _, z⟩
    · cases z
    · cases a <;> cases z
  · unfold fnD at q
    cases hm : m (startE N.length as) u with
    | rt d u' =>
      rw [hm] at q
      exact fun v Hb' H' nx r => q v Hb' H' nx r
    | nx env u' =>
      rw [hm] at q
      exact fun σ Hb' H' r => q .non Hb' H' r.nxt .non
    | ex e env u' =>
      rw [hm] at q
      exact fun cls dx σ Hb' H' r z => q cls dx Hb' H' r.nxt z
    | bk env u' => rw [hm] at q; exact q.elim
    | ct env u' => rw [hm] at q; exact q.elim
    | bad => rw [hm] at q; exact q.elim

/-! ### calls of such -/
def fCallG (m : List Arg → Src → Rs Src D) (fa : EF Src (List Arg)) : EF Src D := fun env u => (fa env u).bind fun as u1 => m as u1
/-- no exception is looked for -/
def noEx {U α : Type} : Rs U α → Rs U α
  | .ex _ _ => .bad
  | r => r
def fCallL (n : Nat) (m : List Arg → Src → Rs Src D) (fa : EF Src (List Arg)) : EF Src D := fun env u => (fa env u).bind fun as u1 => if as.length = n then noEx (m as u1) else .bad
abbrev W0 : WX := fun _ _ _ _ => False
theorem sim_callL {K : PySem.W.Frag} {xr : XR} {W : WX} {s c : Addr} {n : Nat} {m : List Arg → Src → Rs Src D} {ta : TA} {fa : EF Src (List Arg)} (hne : s ≠ c) (h : SimA (Cw K xr W s c) ta fa) :
    SimE (Cw K xr W s c) (tCallG (SpD K xr n m) W0 ta) (fCallL n m fa) := fun env u σ Hb H Q r q =>
  h env u σ Hb H _ r (Post.bind q fun as u1 vs Hb1 H1 nx ar h1 => by
    split at h1
    · rename_i hl
      have ar' : ArgsR (Cw K xr W s c) Hb1 vs as := ar
      refine ⟨ar'.length.trans hl, s, c, u1, Hb1, as, hne, nx.wf, ?_, ?_⟩
      · have : ∀ {vs : List V} {as : List Arg}, ArgsR (Cw K xr W s c) Hb1 vs as → ArgsR (Cw K xr (wE fun cls d H' => W0 cls d σ H') s c) Hb1 vs as := by
          intro vs as z
          induction z with
          | nil => exact .nil
          | cons z _ ih => rename_i a _ _; exact .cons (by cases a <;> exact z) ih
        exact this ar'
      · cases hm : m as u1 with
        | ok d u2 =>
          rw [hm] at h1
          exact fun v Hb2 H2 n2 z => h1 v Hb2 H2 n2 z
        | ex e u2 => rw [hm] at h1; exact h1.elim
        | bad => rw [hm] at h1; exact h1.elim
    · exact h1.elim)
end DL

namespace DL
open PySem L2
open Evl (Ex)

/-! ### the source: reads and writes -/
theorem Nxt.world {U : Type} {hp : U → Hp} {u u' : U} {Hb H : Hp} {a : Addr} {o : HO} (w : Wf hp u Hb H) (ha : hp u a ≠ none) (hu : hp u' = upd (hp u) a o) : Nxt hp u u' Hb H Hb (upd H a o) := by
  have hb : Hb a = none := w.sep a ha
  refine ⟨fun _ _ h => h, fun b x h => ?_, fun _ _ h => h, fun b x h hn => ?_, fun b h => ?_, fun b x h => ?_, fun b h hn => ?_, fun b h => ?_⟩
  · have ne : b ≠ a := fun z => by rw [z, hb] at h; cases h
    rw [upd_ne ne]
    exact w.sub b x h
  · have ne : b ≠ a := fun z => ha (z ▸ hn)
    rw [upd_ne ne]
    exact h
  · by_cases e : b = a
    · subst e
      rw [upd_same]
      exact fun z => nomatch z
    · rw [upd_ne e]
      exact h
  · rw [hu] at h
    by_cases e : b = a
    · subst e
      rw [upd_same] at h ⊢
      exact h
    · rw [upd_ne e] at h ⊢
      exact w.wld b x h
  · have ne : b ≠ a := fun z => ha (z ▸ hn)
    rw [hu, upd_ne ne]
    exact hn
  · rw [hu] at h
    by_cases e : b = a
    · subst e; exact hb
    · rw [upd_ne e] at h
      exact w.sep b h
inductive SK where
  | left
  | mixed
  | turn
def SK.key : SK → Str
  | .left => "left"
  | .mixed => "mixed"
  | .turn => "turn"
def SK.get : SK → Src → Int
  | .left, u => u.left
  | .mixed, u => u.mixed
  | .turn, u => u.turn
def SK.set : SK → Int → Src → Src
  | .left, n, u => { u with left := n }
  | .mixed, n, u => { u with mixed := n }
  | .turn, n, u => { u with turn := n }
theorem srcD_get (k : SK) (c : Addr) (u : Src) : valV (srcD c u) (.inr k.key) = some (.int (k.get u)) := by cases k <;> rfl
theorem srcD_cells (c : Addr) (u : Src) : valV (srcD c u) (.inr "cells") = some (.ref c) := rfl
theorem srcD_put (k : SK) (c : Addr) (u : Src) (n : Int) : putK (srcD c u) (.inr k.key) (.int n) = srcD c (k.set n u) := by cases k <;> rfl
theorem srcHp_put (k : SK) {s c : Addr} (u : Src) (n : Int) : srcHp s c (k.set n u) = upd (srcHp s c u) s (.dK (srcD c (k.set n u))) := by
  funext b
  by_cases e : b = s
  · subst e
    rw [upd_same]
    exact if_pos rfl
  · rw [upd_ne e]
    show (if b = s then _ else _) = (if b = s then _ else _)
    rw [if_neg e, if_neg e]
    cases k <;> rfl
theorem srcHp_pop {s c : Addr} (hne : s ≠ c) (u : Src) (l : List Int) : srcHp s c { u with cells := l } = upd (srcHp s c u) c (.lst (l.map V.int)) := by
  funext b
  by_cases e : b = c
  · subst e
    rw [upd_same]
    show (if b = s then _ else _) = _
    rw [if_neg fun z => hne z.symm, if_pos rfl]
  · rw [upd_ne e]
    show (if b = s then _ else _) = (if b = s then _ else _)
    rw [if_neg e, if_neg e]
    rfl
section
variable {K : PySem.W.Frag} {xr : XR} {W : WX} {s c : Addr} {u : Src} {Hb H : Hp} {env : Env} {σ : L2.St}
theorem src_dic (w : Wf (srcHp s c) u Hb H) : H s = some (.dK (srcD c u)) := w.wld s _ (if_pos rfl)
theorem src_lst (hne : s ≠ c) (w : Wf (srcHp s c) u Hb H) : H c = some (.lst (u.cells.map V.int)) := w.wld c _ (by
  show (if c = s then _ else _) = _
  rw [if_neg fun z => hne z.symm]
  exact if_pos rfl)
theorem src_tok {i : Nat} (r : Rel (Cw K xr W s c) env u σ Hb H) (h : env[i]? = some .tok) : σ[i]? = some (some (.ref s)) := join_some (r.slot i _ h)
theorem src_there (w : Wf (srcHp s c) u Hb H) : srcHp s c u s ≠ none := by
  rw [show srcHp s c u s = some (.dK (srcD c u)) from if_pos rfl]
  exact fun z => nomatch z
theorem src_thereC (hne : s ≠ c) : srcHp s c u c ≠ none := by
  rw [show srcHp s c u c = some (.lst (u.cells.map V.int)) from by
    show (if c = s then _ else _) = _
    rw [if_neg fun z => hne z.symm]
    exact if_pos rfl]
  exact fun z => nomatch z
def fSrcI (k : SK) (i : Nat) : EF Src D := fun env u => match env[i]? with
  | some .tok => .ok (.int (k.get u)) u
  | _ => .bad
def fSrcLen (i : Nat) : EF Src D := fun env u => match env[i]? with
  | some .tok => .ok (.int u.cells.length) u
  | _ => .bad
def fSrcPop (i : Nat) : EF Src D := fun env u => match env[i]? with
  | some .tok => match u.cells.getLast? with
    | some z => .ok (.int z) { u with cells := u.cells.dropLast }
    | none => .bad
  | _ => .bad
def fSrcPut (k : SK) (i : Nat) (fe : EF Src D) : SF Src := fun env u => match env[i]? with
  | some .tok => So.after (fe env u) env fun d u1 => match d with
    | .int n => .nx env (k.set n u1)
    | _ => .bad
  | _ => .bad
theorem sim_srcI {k : SK} {i : Nat} : SimE (Cw K xr W s c) (tDGet (tVar i) (tC (.str k.key))) (fSrcI k i) := fun env u σ Hb H Q r q => by
  unfold fSrcI at q
  split at q
  · rename_i h
    exact ⟨_, src_tok r h, s, _, rfl, by rw [← srcD_get k c u]; exact DGet.k (k := .inr k.key) (src_dic r.wf), q.okI r.wf (.int _)⟩
  · exact q.elim
theorem sim_srcLen {i : Nat} (hne : s ≠ c) : SimE (Cw K xr W s c) (tCB (fun xs H Q => ∃ x n, xs = [x] ∧ LenV K x H n ∧ Q (.int n) H) (tCons (tDGet (tVar i) (tC (.str "cells"))) tNil)) (fSrcLen i) := fun env u σ Hb H Q r q => by
  unfold fSrcLen at q
  split at q
  · rename_i h
    refine ⟨_, src_tok r h, s, .ref c, rfl, by rw [← srcD_cells c u]; exact DGet.k (k := .inr "cells") (src_dic r.wf), _, u.cells.length, rfl, .inl ⟨_, SqL.of (src_lst hne r.wf), (List.length_map _).symm⟩, q.okI r.wf (.int _)⟩
  · exact q.elim
theorem sim_srcPop {i : Nat} (hne : s ≠ c) : SimE (Cw K xr W s c) (tBM0 K "list" rPop (tDGet (tVar i) (tC (.str "cells")))) (fSrcPop i) := fun env u σ Hb H Q r q => by
  unfold fSrcPop at q
  split at q
  · rename_i h
    split at q
    · rename_i z hz
      refine ⟨_, src_tok r h, s, .ref c, rfl, by rw [← srcD_cells c u]; exact DGet.k (k := .inr "cells") (src_dic r.wf), .inl ⟨rfl, _, SqL.of (src_lst hne r.wf)⟩, c, _, .int z, rfl, rfl, src_lst hne r.wf, ?_, ?_⟩
      · rw [List.length_map, List.getElem?_map, ← List.getLast?_eq_getElem?, hz]
        rfl
      · have nx := Nxt.world (hp := srcHp s c) (u' := { u with cells := u.cells.dropLast }) (o := .lst (u.cells.dropLast.map V.int)) r.wf (src_thereC hne) (srcHp_pop hne u _)
        rw [← List.map_dropLast]
        exact q _ _ _ nx (.int _)
    · exact q.elim
  · exact q.elim
theorem sim_srcPut {k : SK} {i : Nat} {te : TE} {fe : EF Src D} (h : SimE (Cw K xr W s c) te fe) : SimS (Cw K xr W s c) (sDPut (tVar i) (tC (.str k.key)) te) (fSrcPut k i fe) := fun E env u σ Hb H Z rel q => by
  unfold fSrcPut at q
  split at q
  · rename_i ht
    refine h env u σ Hb H _ rel.rel (PostS.bind rel q fun d u1 v Hb1 H1 n r rel1 q1 => ?_)
    split at q1
    · rename_i z
      have r : Rp K Hb1 v (.int z) := r
      have ev := r.scal_int
      subst ev
      refine ⟨_, src_tok rel1.rel ht, s, _, rfl, DPut.k (k := .inr k.key) (src_dic rel1.rel.wf) ?_, ?_⟩
      · exact Nat.lt_of_lt_of_le (show 4 < 5 by omega) (by decide)
      · rw [srcD_put]
        exact q1 _ _ _ (rel1.next (Nxt.world rel1.rel.wf (src_there rel1.rel.wf) (srcHp_put k u1 z)))
    · exact q1.elim
  · exact q.elim
end
section
variable {X : Cx} {K : PySem.W.Frag} {xr : XR} {W : WX} {s c : Addr} {x y : Str} {px p1 p2 p3 p4 pos : Pos} {j : Nat}
theorem x_srcI (k : SK) (i : Nat) (hu : X.A.units + 1 < cLine) (hN : X.N[i]? = some x := by rfl) (hv : Vis X.env.scope x := by first | exact Or.inl rfl | exact Or.inr (Or.inl rfl) | exact Or.inr (Or.inr rfl)) (hd : (x == ("__debug__" : Str)) = false := by decide) (hcd : (x == ("__classdict__" : Str)) = false := by decide) :
    XE X (Cw K xr W s c) (.Subscript (.Name x px) (.Constant (.str k.key) j p1) pos) (tDGet (tVar i) (tC (.str k.key))) (fSrcI k i) := ⟨pe_dget hu (pe_var hN hv hd hcd) pe_str fun _ _ => rfl, sim_srcI⟩
theorem x_srcLen (hne : s ≠ c) (hK : X.K = K) (i : Nat) (hu : X.A.units + 1 < cLine) (hg : Gl X "len") (hm : X.mg "len" = none) (hN : X.N[i]? = some x := by rfl) (hv : Vis X.env.scope x := by first | exact Or.inl rfl | exact Or.inr (Or.inl rfl) | exact Or.inr (Or.inr rfl)) (hd : (x == ("__debug__" : Str)) = false := by decide) (hcd : (x == ("__classdict__" : Str)) = false := by decide) :
    XE X (Cw K xr W s c) (.Call (.Name "len" p2) [.Subscript (.Name x px) (.Constant (.str "cells") j p1) p3] [] pos) (tCB (fun xs H Q => ∃ x n, xs = [x] ∧ LenV K x H n ∧ Q (.int n) H) (tCons (tDGet (tVar i) (tC (.str "cells"))) tNil)) (fSrcLen i) := by
  subst hK
  exact ⟨pe_callB call_len hg hm PySem.boot_len (pa_cons (pe_dget hu (pe_var hN hv hd hcd) pe_str fun _ _ => rfl) pa_nil), sim_srcLen hne⟩
theorem x_srcPop (hne : s ≠ c) (hK : X.K = K) (i : Nat) (hu : X.A.units + 1 < cLine) (hline : (p4.endLine == pos.line) = true) (hN : X.N[i]? = some x := by rfl) (hv : Vis X.env.scope x := by first | exact Or.inl rfl | exact Or.inr (Or.inl rfl) | exact Or.inr (Or.inr rfl)) (hd : (x == ("__debug__" : Str)) = false := by decide) (hcd : (x == ("__classdict__" : Str)) = false := by decide) :
    XE X (Cw K xr W s c) (.Call (.Attribute (.Subscript (.Name x px) (.Constant (.str "cells") j p1) p3) "pop" p4) [] [] pos) (tBM0 K "list" rPop (tDGet (tVar i) (tC (.str "cells")))) (fSrcPop i) := by
  subst hK
  exact ⟨pe_bm0 PySem.F.plainAttrs_list PySem.F.slot_list_pop PySem.F.type_list_pop mt_pop (pe_dget hu (pe_var hN hv hd hcd) pe_str fun _ _ => rfl) rfl hline, sim_srcPop hne⟩
theorem s_srcPut (k : SK) (i : Nat) {e : Expr} {te : TE} {fe : EF Src D} (hu : X.A.units + 1 < cLine) (h : XE X (Cw K xr W s c) e te fe) (hN : X.N[i]? = some x := by rfl) (hv : Vis X.env.scope x := by first | exact Or.inl rfl | exact Or.inr (Or.inl rfl) | exact Or.inr (Or.inr rfl)) (hd : (x == ("__debug__" : Str)) = false := by decide) (hcd : (x == ("__classdict__" : Str)) = false := by decide)
    (hs : swapsWith e (some (.Subscript (.Name x px) (.Constant (.str k.key) j p1) p2)) pos.line X.env = pure false := by rfl) :
    XS X (Cw K xr W s c) (.Assign [.Subscript (.Name x px) (.Constant (.str k.key) j p1) p2] e pos) (sDPut (tVar i) (tC (.str k.key)) te) (fSrcPut k i fe) := ⟨ps_dput hu (pe_var hN hv hd hcd) pe_str h.pe hs, sim_srcPut h.s⟩
end

/-! ### a def that may be called by its name -/
structure CalD (P : Program) (w : World) (K : PySem.W.Frag) (mg : Str → Option Value) (base : Heap) (xr : XR) (k : Nat) (x : Str) (n : Nat) (m : List Arg → Src → Rs Src D) : Prop where
  ex : ∃ f fd ps, FnG P w K mg base k f fd ps (SpD K xr n m) ∧ mg x = some (.ref f) ∧ PySem.W.keepIn K (.ref f) = true ∧ Binds K fd ps []
theorem CalD.mono {P : Program} {w : World} {K : PySem.W.Frag} {mg : Str → Option Value} {base : Heap} {xr : XR} {j k : Nat} {x : Str} {n : Nat} {m : List Arg → Src → Rs Src D} (h : CalD P w K mg base xr j x n m) (hk : j ≤ k) : CalD P w K mg base xr k x n m := by
  obtain ⟨f, fd, ps, F, r⟩ := h.ex
  exact ⟨f, fd, ps, F.mono hk, r⟩
section
variable {X : Cx} {P : Program} {w : World} {K : PySem.W.Frag} {mg : Str → Option Value} {base : Heap} {xr : XR} {W : WX} {s c : Addr} {x : Str} {p pos : Pos} {e : Expr} {es : List Expr} {ta : TA} {fa : EF Src (List Arg)} {k n : Nat} {m : List Arg → Src → Rs Src D}
theorem x_call (F : CalD P w K mg base xr k x n m) (hne : s ≠ c) (hX : X.prog = P ∧ X.w = w ∧ X.K = K ∧ X.mg = mg ∧ X.base = base) (hgu : X.A.guards = some []) (hr : Room k X.A) (ha : XA X (Cw K xr W s c) (e :: es) ta fa) (hg : Gl X x := by rfl) (hdb : (x == ("__debug__" : Str)) = false := by decide)
    (he : starEach (e :: es) X.env = (false, eval e X.env) :: starEach es X.env := by rfl) (hpl : (backTo pos (starEach es X.env)).any (·.1) = false := by rfl) :
    XE X (Cw K xr W s c) (.Call (.Name x p) (e :: es) [] pos) (tCallG (SpD K xr n m) W0 ta) (fCallL n m fa) := by
  obtain ⟨rfl, rfl, rfl, rfl, rfl⟩ := hX
  obtain ⟨f, fd, ps, F, hm, hk, hb⟩ := F.ex
  exact ⟨pe_callG F hgu hr hg hm hk hb takes0 ha.pe hdb he hpl, sim_callL hne ha.s⟩
end
end DL

namespace DL
open PySem L2
open Evl (Ex)

/-! ### the source made of the script -/
def mixStep (m c : Int) : Int := (m * 69069 + c * 31 + 5) % 2147483629
def absI (i : Int) : Int := if i < 0 then -i else i
def srcOf (ns : List Int) : Src := ⟨(ns.map absI).reverse, 1, ns.foldl mixStep 11, 0⟩
def rInt1 : List V → Hp → VK → Prop := fun xs H Q => (∃ i, xs = [.int i] ∧ Q (.int i) H) ∨ ∃ k, xs = [.bl k] ∧ Q (.int (if k then 1 else 0)) H
def rAbs1 : List V → Hp → VK → Prop := fun xs H Q => ∃ i, xs = [.int i] ∧ Q (.int (if i < 0 then -i else i)) H
def tSrcMix : TS := tAsg (tOp (rI (fun _ j => 0 < j) fun i j => .int (i % j)) (tCB rInt1 (tCons (tOp (rI0 fun i j => .int (i + j)) (tOp (rI0 fun i j => .int (i + j)) (tOp (rI CMul fun i j => .int (i * j)) (tVar 1) (tC (.int 69069)))
  (tOp (rI CMul fun i j => .int (i * j)) (tVar 2) (tC (.int 31)))) (tC (.int 5))) tNil)) (tC (.int 2147483629))) (gName 1)
def tSrcCells (K : PySem.W.Frag) : TE := tRevL K (tLc (iList K (tVar 0)) (gName 2) tYes (tCB rAbs1 (tCons (tVar 2) tNil)) [2])
def tSrc (K : PySem.W.Frag) : TS := tSeq (tAsg (tC (.int 11)) (gName 1)) (tSeq (tFor (iList K (tVar 0)) (gName 2) tSrcMix)
  (tRet (tDisp [(tC (.str "cells"), tSrcCells K), (tC (.str "left"), tC (.int 1)), (tC (.str "mixed"), tVar 1), (tC (.str "turn"), tC (.int 0))])))
/-- what the source's maker promises -/
def SpSrc (K : PySem.W.Frag) : Sp := fun vs H Q _ => ∃ (a : Addr) (ns : List Int), vs = [.ref a] ∧ SqL K H a (ns.map V.int) ∧ ns.length ≤ 63 ∧
  ∀ (s c : Addr) (H' : Hp), s ≠ c → H' s = some (.dK (srcD c (srcOf ns))) → H' c = some (.lst ((srcOf ns).cells.map V.int)) → Q (.ref s) H'
theorem sq_keep {K : PySem.W.Frag} {H H' : Hp} {a : Addr} {xs : List V} (e : Ex H H') (h : SqL K H a xs) : SqL K H' a xs := by
  rcases h with (h | ⟨ob, h⟩) | h
  · exact .inl (.inl (e _ _ h))
  · exact .inl (.inr ⟨ob, e _ _ h⟩)
  · exact .inr h
theorem ex_new {H : Hp} {p : Addr} {o : HO} (h : H p = none) : Ex H (upd H p o) := Ex.new h
theorem src_sem {K : PySem.W.Frag} {a : Addr} {ns : List Int} {H : Hp} {Z : Ends} (hS : SqL K H a (ns.map V.int)) (hl : ns.length ≤ 63)
    (q : ∀ (s c : Addr) (H' : Hp), s ≠ c → H' s = some (.dK (srcD c (srcOf ns))) → H' c = some (.lst ((srcOf ns).cells.map V.int)) → Z.rt (.ref s) H') : tSrc K Z [some (.ref a), none, none] H := by
  refine ⟨.ref a, rfl, a, rfl, ⟨_, hS⟩, ?_⟩
  refine for_list (K := K) (a := a) (xs := ns.map V.int) (fun i σ H2 => ∃ v2 : Option V, σ = [some (.ref a), some (.int ((ns.take i).foldl mixStep 11)), v2] ∧ H2 = H) ⟨none, rfl, rfl⟩ (fun i σ H2 _ ⟨_, _, e⟩ => by rw [e]; exact hS) ?_ ?_
  · rintro i x σ H2 hi ⟨v2, rfl, rfl⟩
    rw [List.getElem?_map] at hi
    cases e : ns[i]? with
    | none => rw [e] at hi; cases hi
    | some c =>
      rw [e] at hi
      cases hi
      refine ⟨_, rfl, _, _, rfl, rfl, .inr ⟨by decide, by decide⟩, _, rfl, _, _, rfl, rfl, .inr ⟨by decide, by decide⟩, _, _, rfl, rfl, _, _, rfl, rfl, .inl ⟨_, rfl, _, _, rfl, rfl, (by show (0 : Int) < 2147483629; decide), some (.int c), ?_, rfl⟩⟩
      rw [List.take_add_one, e, List.foldl_append]
      rfl
  · rintro σ H2 ⟨v2, rfl, rfl⟩
    rw [List.length_map, List.take_of_length_le (Nat.le_refl _)]
    intro p hp
    have hS1 : SqL K (upd H2 p (.dK [])) a (ns.map V.int) := sq_keep (ex_new hp) hS
    refine ⟨_, rfl, a, rfl, ⟨_, hS1⟩, fun D hD => ?_⟩
    have hSD : ∀ l, SqL K (upd (upd H2 p (.dK [])) D (.lst l)) a (ns.map V.int) := fun l => sq_keep (ex_new hD) hS1
    have nD : D ≠ p := fun z => by rw [z, upd_same] at hD; cases hD
    refine lc_it (walk_list (K := K) (a := a) (xs := ns.map V.int)) (fun i H3 => H3 = upd (upd H2 p (.dK [])) D (.lst ((ns.take i).map fun c => V.int (absI c)))) rfl (fun i H3 _ e => by rw [e]; exact hSD _) ?_ ?_
    · rintro i x H3 H4 hi rfl ⟨rfl, hx⟩
      rw [List.getElem?_map] at hx
      cases e : ns[i]? with
      | none => rw [e] at hx; cases hx
      | some c =>
        rw [e] at hx
        cases hx
        refine ⟨rfl, _, rfl, _, rfl, _, upd_same, ?_, ?_⟩
        · rw [List.length_map, List.length_take]
          exact Nat.lt_of_le_of_lt (Nat.le_trans (Nat.min_le_right _ _) hl) (by decide)
        · rw [upd_upd, List.take_add_one, e, List.map_append]
          rfl
    · rintro H3 rfl
      refine ⟨D, _, rfl, .inl (.inl upd_same), fun c hc => ?_⟩
      have ncD : c ≠ D := fun z => by rw [z, upd_same] at hc; cases hc
      have ncp : c ≠ p := fun z => by rw [z, upd_ne nD.symm, upd_same] at hc; cases hc
      refine ⟨_, rfl, ?_, [(.inr "cells", .ref c), (.inr "left", .int 1), (.inr "mixed", .int (ns.foldl mixStep 11)), (.inr "turn", .int 0)], rfl, (by show 4 ≤ 15; omega), ?_⟩
      · rw [upd_ne ncp.symm, upd_ne nD.symm, upd_same]
      · refine q p c _ (fun z => ncp z.symm) ?_ ?_
        · rw [upd_same]
          rfl
        · rw [upd_ne ncp, upd_same]
          simp [srcOf, List.map_reverse, List.map_map, Function.comp_def, List.length_map]
/-! ### the law's own head -/
def SpLaw (K : PySem.W.Frag) : Sp := fun vs H Q _ => ∃ (a : Addr) (ns : List Int), vs = [.ref a] ∧ SqL K H a (ns.map V.int) ∧ ns.length ≤ 63 ∧ ∀ H', Q (.bl true) H'
def lawEnv (n : Nat) : Env := (List.replicate n Slot.non).set 1 .tok
/-- the law keeps at the script ns -/
def Kept (n : Nat) (b : SF Src) (ns : List Int) : Prop := ∃ u, b (lawEnv n) (srcOf ns) = .rt (.bool true) u
theorem law_sem {K : PySem.W.Frag} {xr : XR} {W : WX} {N : List Str} {t : TS} {b : SF Src} {a : Addr} {ns : List Int} {H : Hp} {Z : Ends} (hN : 2 ≤ N.length) (h : ∀ s c : Addr, s ≠ c → SimS (Cw K xr W s c) t b) (hS : SqL K H a (ns.map V.int)) (hl : ns.length ≤ 63)
    (hk : Kept N.length b ns) (q : ∀ H', Z.rt (.bl true) H') : tSeq (tAsg (tCallG (SpSrc K) W0 (tCons (tVar 0) tNil)) (gName 1)) t Z (L2.start N [.ref a]) H := by
  have e0 : (L2.start N [V.ref a])[0]? = some (some (.ref a)) := rfl
  refine ⟨_, e0, a, ns, rfl, hS, hl, fun s c H' hne h1 h2 => ?_⟩
  have hlen : (L2.start N [V.ref a]).length = N.length := by
    simp [L2.start]
    omega
  have wf : Wf (srcHp s c) (srcOf ns) (fun _ => none) H' := by
    refine ⟨fun b o z => (nomatch z), fun b o z => ?_, fun b _ => rfl⟩
    unfold srcHp at z
    split at z
    · rename_i e
      subst e
      rw [h1]
      exact z
    · split at z
      · rename_i e
        subst e
        rw [h2]
        exact z
      · cases z
  obtain ⟨u', hk⟩ := hk
  refine h s c hne ⟨srcOf ns, fun _ => none, H', fun _ => none⟩ (lawEnv N.length) (srcOf ns) _ (fun _ => none) H' Z ⟨⟨wf, ?_, fun i sl hi => ?_, fun i j d d' p hi => ?_⟩, Nxt.refl wf, fun p ⟨i, d, hi, _⟩ => ?_, fun _ _ z => z⟩ ?_
  · rw [List.length_set, hlen, lawEnv, List.length_set, List.length_replicate]
  · rcases set_get hi with ⟨e, e2, _⟩ | ⟨_, hi'⟩
    · subst e
      subst e2
      show ((L2.start N [V.ref a]).set 1 (some (.ref s)))[1]?.join = _
      rw [List.getElem?_set_self (by rw [hlen]; omega)]
      rfl
    · rw [List.getElem?_replicate] at hi'
      split at hi' <;> cases hi'
      trivial
  · rcases set_get hi with ⟨_, e2, _⟩ | ⟨_, hi'⟩
    · cases e2
    · rw [List.getElem?_replicate] at hi'
      split at hi' <;> cases hi'
  · rcases set_get hi with ⟨_, e2, _⟩ | ⟨_, hi'⟩
    · cases e2
    · rw [List.getElem?_replicate] at hi'
      split at hi' <;> cases hi'
  · rw [hk]
    intro v Hb' H2 nx r
    have ev : v = .bl true := Rp.scal_bool r
    rw [ev]
    exact q _
end DL

namespace DL
open PySem L2 PyProof.Rows

/-! ### the law's statement, from the promise of its def -/
theorem lawG_call {P : Program} {w : World} {K : PySem.W.Frag} {mg mb : Str → Option Value} {k : Nat} {fa a : Addr} {fd : FuncData} {x : Str} {sp : Sp} {s₁ : Shared} {vs : List Value} {ns : List Int}
    (KX : K.In s₁.heap) (hns : s₁.heap.Ns mainGlobals mg) (hb : s₁.heap.Ns builtinsNs mb) (hbb : ∀ x : Str, x ≠ "__name__" → mb x = bootBuiltins x) (hlim : s₁.heap.NoLimit) (hg : s₁.gens = #[])
    (ha : s₁.heap.get? a = some { cls := .type "list", data := .seq vs.toArray }) (hi : PyProof.Rows.IntsAre vs ns) (hl : ns.length ≤ sizeLine) (hr : Room k callerA)
    (F : ∀ base : Heap, K.In base → base.Ns mainGlobals mg → FnG P w K mg base k fa fd [x] sp) (hbind : ∀ (s : Shared) (u : Value), BindsTo s fd ⟨[u], []⟩ [(x, u)])
    (hsp : ∀ H : Hp, Only H → SqL K H a (ns.map V.int) → sp [.ref a] H (fun v _ => v = .bl true) fun _ _ _ => False)
    (hCX : ∀ H e s', L2.CX P w [] H s₁ (fun _ _ _ => False) e s' → False) :
    codeAny (model P w) callerA (.call (.ref fa) ⟨[.ref a], []⟩) (fun r s' => r = .ok (.ret (.bool true)) ∧ PySem.OldK s₁.heap s'.heap ∧ s'.os = s₁.os ∧ AllBare s'.gens) s₁ := by
  have rv := vals_ints hi
  have lenV := hi.length
  have main : ∀ H : Hp, Only H → SqL K H a (ns.map V.int) → HOk P w H s₁.heap → (∀ b, H b ≠ none → b = a) → (H a ≠ none → K.lookup a = none) →
      codeAny (model P w) callerA (.call (.ref fa) ⟨[.ref a], []⟩) (fun r s' => r = .ok (.ret (.bool true)) ∧ PySem.OldK s₁.heap s'.heap ∧ s'.os = s₁.os ∧ AllBare s'.gens) s₁ := by
    intro H hO hS hok hA hK
    have inB : ∀ {b : Addr} {o : Obj}, s₁.heap.get? b = some o → H b = none → (hidT s₁.heap H).get? b = some o := fun e n => hidT_get e n
    have dicts : ∀ {b : Addr} {o : Obj} {es : Array DictEntry} {ep : Nat}, s₁.heap.get? b = some o → o.data = .dict es ep → H b = none := by
      intro b o es ep e d
      cases q : H b with
      | none => rfl
      | some u =>
        obtain rfl : b = a := hA b (by rw [q]; exact fun z => nomatch z)
        rw [ha] at e
        cases e
        have d' : Data.seq vs.toArray _ = Data.dict es ep := d
        cases d'
    have nsB : ∀ {b : Addr} {m : Str → Option Value}, s₁.heap.Ns b m → (hidT s₁.heap H).Ns b m := fun {b m} ⟨o, es, ep, e, d, r⟩ => ⟨o, es, ep, inB e (dicts e d), d, r⟩
    have kinB : K.In (hidT s₁.heap H) := by
      intro b o e
      refine inB (KX b o e) ?_
      cases q : H b with
      | none => rfl
      | some u =>
        obtain rfl : b = a := hA b (by rw [q]; exact fun z => nomatch z)
        have := hK (by rw [q]; exact fun z => nomatch z)
        rw [this] at e
        cases e
    obtain ⟨mc, hm1, hm2⟩ := hlim
    have mod : Mod K mg (hidT s₁.heap H) := ⟨kinB, nsB hns, ⟨mb, nsB hb, hbb⟩, ⟨mc, nsB hm1, hm2⟩⟩
    have e0 : Env0 P w K mg (hidT s₁.heap H) callerA [] s₁ H := ⟨rfl, mod, fun b o e => of_hidT e, Nat.le_of_eq (hidT_size _ _), trivial, fun b hb => absurd (show b ∈ ([] : List Addr) from hb) List.not_mem_nil, hok, .of_eq hg⟩
    refine codeAny_mono ((F _ kinB (nsB hns)).run callerA [] s₁ H ⟨[.ref a], []⟩ [.ref a] [.ref a] _ _ rfl hr e0 (hbind s₁ (.ref a)) (.cons rfl .nil) (hsp H hO hS)) ?_
    intro r s' h
    cases r with
    | error e => exact (hCX H e s' h).elim
    | ok fl =>
      cases fl with
      | ret u =>
        obtain ⟨v, H', os, bare, un, hok', r', q⟩ := h
        have q : v = .bl true := q
        subst q
        obtain rfl : u = Value.bool true := r'
        refine ⟨rfl, PySem.OldK.of_keep fun b o e => ?_, os, bare⟩
        cases q : H b with
        | none => exact un.keep b o e q (fun z => absurd (show b ∈ ([] : List Addr) from z) List.not_mem_nil) List.not_mem_nil
        | some u =>
          rcases hO b with z | ⟨ob, xs, z⟩
          · rw [q] at z; cases z
          · obtain ⟨e1, _⟩ := hok b _ z
            obtain ⟨e2, _⟩ := hok' b _ (un.frzs b ob _ z)
            rw [e] at e1
            cases e1
            exact e2
      | next => exact h.elim
      | brk => exact h.elim
      | cont => exact h.elim
  cases hk : K.lookup a with
  | some o =>
    have e := KX a o hk
    rw [ha] at e
    cases e
    exact main (fun _ => none) (fun _ => .inl rfl) (.inr ⟨_, vs.toArray, _, hk, rfl, rfl, rfl, by rw [List.size_toArray, lenV]; exact hl, by simpa using rv⟩) (fun b u z => by have z' : (none : Option HO) = some u := z; cases z') (fun b z => absurd rfl z) fun z => absurd rfl z
  | none =>
    refine main (fun b => if b = a then some (.frz { cls := .type "list", data := .seq vs.toArray } (.lst (ns.map V.int))) else none) ?_ (.inl (.inr ⟨{ cls := .type "list", data := .seq vs.toArray }, if_pos rfl⟩)) ?_ ?_ fun _ => hk
    · intro b
      by_cases e : b = a
      · exact .inr ⟨_, _, if_pos e⟩
      · exact .inl (if_neg e)
    · intro b u z
      by_cases e : b = a
      · have z' := (if_pos e).symm.trans z
        cases z'
        subst e
        exact ⟨ha, by rw [List.length_map]; exact hl, vs, _, rv, ha⟩
      · have z' := (if_neg e).symm.trans z
        cases z'
    · intro b z
      by_cases e : b = a
      · exact e
      · exact absurd (if_neg e) z
theorem no_cx {P : Program} {w : World} {H : Hp} {s : Shared} {e : Value} {s' : Shared} (h : L2.CX P w [] H s (fun _ _ _ => False) e s') : False := by
  obtain ⟨_, _, _, _, _, _, _, _, _, _, _, _, z⟩ := h
  exact z
theorem walkG {l : PySem.W.OpenLaw} {k : Nat} {q : Program} {loose : List Str} {XP : (Str → Option Value) → Heap → Prop} {YP : World → Heap → Prop} {d : DefRec} {K : Params → PySem.W.Frag} {x : Str}
    (hn : l.most = some 63) (hdf : d.params.defaults = []) (hr : Room k callerA) (hY : ∀ (w : World) (h : Heap), YP w h → (K w.params).In h)
    (F : ∀ (w : World) (mg : Str → Option Value) (fa : Addr) (h : Heap), (K w.params).In h → h.Ns mainGlobals mg → mg d.name = some (.ref fa) →
      ∃ fd : FuncData, (∀ (s : Shared) (u : Value), BindsTo s fd ⟨[u], []⟩ [(x, u)]) ∧ ∀ base : Heap, (K w.params).In base → base.Ns mainGlobals mg → FnG l.prog w (K w.params) mg base k fa fd [x] (SpLaw (K w.params))) :
    PySem.W.WalkO q loose XP YP l.row.toRowW d [] (fun f vs => PySem.call f vs) := by
  refine Att.attach_call hn hdf ?_
  intro w s₀ s₁ mg mb fa o pm cd doc a vs ns G Y ho hd hcd hmg hobj hints hlen hg
  have KX := hY w _ Y
  obtain ⟨fd, hb, hF⟩ := F w mg fa _ KX G.T.g hmg
  exact lawG_call KX G.T.g G.T.b G.T.builtins G.T.nolimit hg hobj hints (Nat.le_trans hlen (by decide)) hr hF hb (fun H _ hS => ⟨a, ns, rfl, hS, hlen, fun _ => rfl⟩) fun H e s' => no_cx
end DL

namespace DL
open PySem L2
open Evl (Ex)

/-! ### names of the built-ins -/
theorem bt_len : bootBuiltins "len" = some (.builtin "len") := by decide +kernel
theorem bt_abs : bootBuiltins "abs" = some (.builtin "abs") := by decide +kernel
theorem bt_any : bootBuiltins "any" = some (.builtin "any") := by decide +kernel
theorem bt_all : bootBuiltins "all" = some (.builtin "all") := by decide +kernel
theorem bt_sum : bootBuiltins "sum" = some (.builtin "sum") := by decide +kernel
theorem bt_max : bootBuiltins "max" = some (.builtin "max") := by decide +kernel
theorem bt_min : bootBuiltins "min" = some (.builtin "min") := by decide +kernel
theorem bt_sorted : bootBuiltins "sorted" = some (.builtin "sorted") := by decide +kernel
theorem bt_repr : bootBuiltins "repr" = some (.builtin "repr") := by decide +kernel
theorem bt_int : bootBuiltins "int" = some (.type "int") := by decide +kernel
theorem bt_str : bootBuiltins "str" = some (.type "str") := by decide +kernel
theorem bt_list : bootBuiltins "list" = some (.type "list") := by decide +kernel
theorem bt_tuple : bootBuiltins "tuple" = some (.type "tuple") := by decide +kernel
theorem bt_dict : bootBuiltins "dict" = some (.type "dict") := by decide +kernel

abbrev MF := List DL.Arg → Src → Rs Src D
def leI (i j : Int) : Bool := decide (i ≤ j)
def gtI (i j : Int) : Bool := decide (j < i)
def geI (i j : Int) : Bool := decide (j ≤ i)

/-! ### room -/
theorem rm1 {k : Nat} {A : Around} (r : Room k A) : A.units + 1 < cLine := by
  have := r.un
  omega
theorem rm64 {k : Nat} {A : Around} (r : Room k A) : A.units + 64 < cLine := by
  have := r.un
  omega
theorem rm65 {k : Nat} {A : Around} (r : Room k A) : A.units + 65 < cLine := by
  have := r.un
  omega

/-! ### a value taken apart into names -/
def fUnp {U : Type} (fe : EF U D) (fg : D → Env → Option Env) : SF U := fun env u => So.after (fe env u) env fun d u1 => match fg d env with
  | some env' => .nx env' u1
  | none => .bad
section
variable {U : Type} {X : Cx} {C : Ctx U} {e tg : Expr} {te : TE} {fe : EF U D} {g : TG} {fg : D → Env → Option Env} {is : List Nat} {pos : Pos}
theorem sim_unp (h : SimE C te fe) (hg : SimG C g fg is) : SimS C (tAsg te g) (fUnp fe fg) := fun E env u σ Hb H Z rel q =>
  h env u σ Hb H _ rel.rel (PostS.bind rel q fun d u1 v Hb1 H1 n r rel1 q1 => by
    cases hf : fg d env with
    | none => rw [hf] at q1; exact q1.elim
    | some env' =>
      rw [hf] at q1
      obtain ⟨l, e1, r3, k⟩ := hg env env' Hb1 H1 v d hf rel1.rel.wf.sub r
      subst e1
      exact k σ _ (q1 _ _ _ (rel1.put fun q hq => (r3 q hq).1)))
theorem s_unp (h : XE X C e te fe) (hg : XG X C tg g fg is) (hs : swapsWithSole [tg] e pos.line X.env = pure false := by rfl) (hw : swappedStores [tg] e X.env = pure none := by rfl)
    (ha : List.map (fun x => x.snd) (assignEach [tg] X.env) = [assign tg X.env] := by rfl) : XS X C (.Assign [tg] e pos) (tAsg te g) (fUnp fe fg) := ⟨ps_asg h.pe hg.pg hs hw ha, sim_unp h.s hg.s⟩
end

/-! ### a container of one's own goes into the base -/
theorem Nxt.settle {U : Type} {hp : U → Hp} {u u1 : U} {Hb H Hb1 H1 : Hp} (n : Nxt hp u u1 Hb H Hb1 H1) {p : Addr} {o : HO} (h0 : H p = none) (nb : Hb1 p = none) (nw : hp u1 p = none) (ho : H1 p = some o) : Nxt hp u u1 Hb H (upd Hb1 p o) H1 := by
  refine ⟨n.ext.trans (Ex.new nb), fun b x h => ?_, fun b h1 h2 => ?_, n.keep, n.there, n.wld, n.dom, fun b h => ?_⟩
  · by_cases e : b = p
    · subst e
      rw [upd_same] at h
      cases h
      exact .inl ho
    · rw [upd_ne e] at h
      exact n.sub b x h
  · by_cases e : b = p
    · subst e; exact absurd h0 h1
    · rw [upd_ne e]; exact n.new b h1 h2
  · by_cases e : b = p
    · subst e; exact absurd nw h
    · rw [upd_ne e]; exact n.sep b h

/-! ### the things in a mixed order -/
def mixGo (pick : List Arg → Src → Rs Src D) : Nat → List D → Src → Option (List D × Src)
  | 0, _, u => some ([], u)
  | n + 1, ds, u => match pick [.tok, .d (.int ds.length)] u with
    | .ok (.int i) u1 => if decide (0 ≤ i) && decide (i < 1000) then match ds[i.toNat]? with
      | some d => (mixGo pick n (ds.eraseIdx i.toNat) u1).map fun r => (d :: r.1, r.2)
      | none => none
      else none
    | _ => none
def mixAll (pick : List Arg → Src → Rs Src D) (ds : List D) (u : Src) : Rs Src D := if ds.length ≤ 1000 then (match mixGo pick ds.length ds u with
  | some r => .ok (.list r.1) r.2
  | none => .bad) else .bad
def mMixed (pick : List Arg → Src → Rs Src D) : List Arg → Src → Rs Src D
  | [.tok, .d (.list ds)], u => mixAll pick ds u
  | [.tok, .d (.tuple ds)], u => mixAll pick ds u
  | _, _ => .bad
def rLenV (K : PySem.W.Frag) : List V → Hp → VK → Prop := fun xs H Q => ∃ x n, xs = [x] ∧ LenV K x H n ∧ Q (.int n) H
def rListV (K : PySem.W.Frag) : List V → Hp → VK → Prop := fun xs H Q => ∃ p ys, xs = [.ref p] ∧ (SqL K H p ys ∨ SqT K H p ys) ∧ ∀ l, H l = none → Q (.ref l) (upd H l (.lst ys))
def tMixElt (K : PySem.W.Frag) (sp : Sp) : TE := tBM K "list" rPopAt (tVar 2) (tCons (tCallG sp W0 (tCons (tVar 0) (tCons (tCB (rLenV K) (tCons (tVar 2) tNil)) tNil))) tNil)
def tMix (K : PySem.W.Frag) (sp : Sp) : TS := tSeq (tAsg (tCB (rListV K) (tCons (tVar 1) tNil)) (gName 2))
  (tRet (tLc (iRng1 (tCons (tCB (rLenV K) (tCons (tVar 2) tNil)) tNil)) (gName 3) tYes (tMixElt K sp) [3]))
theorem mix_go {K : PySem.W.Frag} {xr : XR} {s c l : Addr} (hne : s ≠ c) {pick : List Arg → Src → Rs Src D} {u uf : Src} {Hb H H1 : Hp} {v1 : V} {x3 : Option V} {ds xs : List D} {ys : List V} {Q : VK}
    (hn : ds.length ≤ 1000) (nx : Nxt (srcHp s c) u u Hb H Hb H1) (hl0 : H l = none) (hl : H1 l = some (.lst ys)) (hbl : Hb l = none) (hwl : srcHp s c u l = none) (hr : RpL K Hb ys ds)
    (hm : mixGo pick ds.length ds u = some (xs, uf)) (q : ∀ v Hb' H', Nxt (srcHp s c) u uf Hb H Hb' H' → Rp K Hb' v (.list xs) → Q v H') :
    tLc (iRng1 (tCons (tCB (rLenV K) (tCons (tVar 2) tNil)) tNil)) (gName 3) tYes (tMixElt K (SpD K xr 2 pick)) [3] [some (.ref s), some v1, some (.ref l), x3] H1 Q := by
  have hlen : ys.length = ds.length := hr.length
  refine ⟨_, rfl, _, ds.length, rfl, .inl ⟨ys, SqL.of hl, hlen.symm⟩, (ds.length : Nat), rfl, by omega, by omega, fun D0 hD => ?_⟩
  have hD0 : H D0 = none := by
    cases z : H D0 with
    | none => rfl
    | some o => exact absurd hD (nx.there D0 (by rw [z]; exact fun z => nomatch z))
  have nDl : D0 ≠ l := fun z => by rw [z, hl] at hD; cases hD
  have wf1 := nx.wf
  have fD := wf1.fresh hD
  refine lc_it (walk_range (lo := 0) (n := ((ds.length : Nat) : Int).toNat)) (fun i H3 => ∃ (u3 : Src) (Hb3 : Hp) (ysR : List V) (dsR : List D) (acc : List V) (accD xs' : List D),
    Nxt (srcHp s c) u u3 Hb H Hb3 H3 ∧ H3 l = some (.lst ysR) ∧ Hb3 l = none ∧ srcHp s c u3 l = none ∧ RpL K Hb3 ysR dsR ∧ dsR.length + i = ds.length ∧
      H3 D0 = some (.lst acc) ∧ Hb3 D0 = none ∧ srcHp s c u3 D0 = none ∧ RpL K Hb3 acc accD ∧ acc.length = i ∧ mixGo pick dsR.length dsR u3 = some (xs', uf) ∧ accD ++ xs' = xs)
    ⟨u, Hb, ys, ds, [], [], xs, nx.writeO (C := Cw K xr W0 s c) hD0 fD.1 fD.2, ?_, hbl, hwl, hr, rfl, upd_same, fD.1, fD.2, .nil, rfl, hm, rfl⟩ (fun _ _ _ _ => trivial) ?_ ?_
  · rw [upd_ne nDl.symm]; exact hl
  · rintro i x H3 H4 hi ⟨u3, Hb3, ysR, dsR, acc, accD, xs', n3, hl3, hbl3, hwl3, hr3, hi3, hD3, hbD3, hwD3, ha3, hac, hm3, hx⟩ ⟨rfl, rfl⟩
    obtain ⟨m, em⟩ : ∃ m, dsR.length = m + 1 := ⟨dsR.length - 1, by omega⟩
    rw [em] at hm3
    unfold mixGo at hm3
    split at hm3
    · rename_i j u4 hp
      split at hm3
      · rename_i hj
        simp only [Bool.and_eq_true, decide_eq_true_eq] at hj
        split at hm3
        · rename_i d hd
          have hk : j.toNat < dsR.length := (List.getElem?_eq_some_iff.mp hd).1
          obtain ⟨y, hy, ry⟩ := hr3.get hd
          cases hg : mixGo pick m (dsR.eraseIdx j.toNat) u4 with
          | none => rw [hg] at hm3; cases hm3
          | some r =>
            rw [hg] at hm3
            cases hm3
            refine ⟨rfl, _, rfl, .inl ⟨rfl, ysR, SqL.of hl3⟩, _, rfl, _, rfl, _, dsR.length, rfl, .inl ⟨ysR, SqL.of hl3, hr3.length.symm⟩, rfl, s, c, u3, Hb3, [.tok, .d (.int dsR.length)], hne, n3.wf, .cons (a := .tok) rfl (.cons (a := .d (.int dsR.length)) (.int _) .nil), ?_⟩
            rw [hp]
            intro v Hb4 H4 n4 rv
            have ev : v = .int j := Rp.scal_int rv
            subst ev
            have hl4 : H4 l = some (.lst ysR) := n4.keep l _ hl3 hwl3
            have hD4 : H4 D0 = some (.lst acc) := n4.keep D0 _ hD3 hwD3
            have hbl4 : Hb4 l = none := n4.new l (by rw [hl3]; exact fun z => nomatch z) hbl3
            have hbD4 : Hb4 D0 = none := n4.new D0 (by rw [hD3]; exact fun z => nomatch z) hbD3
            have hwl4 : srcHp s c u4 l = none := n4.dom l (by rw [hl3]; exact fun z => nomatch z) hwl3
            have hwD4 : srcHp s c u4 D0 = none := n4.dom D0 (by rw [hD3]; exact fun z => nomatch z) hwD3
            have ek : seqIndex? j ysR.length = some j.toNat := by
              rw [hr3.length]
              unfold seqIndex?
              have h1 : ¬ j < 0 := by omega
              have h2 : j < (dsR.length : Int) := by omega
              simp [h1, h2, hj.1]
            refine ⟨l, ysR, j, j.toNat, y, rfl, rfl, hl4, by omega, by omega, ek, hy, acc, ?_, ?_, ?_⟩
            · rw [upd_ne nDl]; exact hD4
            · rw [hac]
              exact Nat.lt_of_lt_of_le (show i < 1001 by omega) (by decide)
            · refine ⟨u4, Hb4, ysR.eraseIdx j.toNat, dsR.eraseIdx j.toNat, acc ++ [y], accD ++ [d], r.1, ((n3.trans n4).writeO (C := Cw K xr W0 s c) hl0 hbl4 hwl4).writeO (C := Cw K xr W0 s c) hD0 hbD4 hwD4, ?_, hbl4, hwl4, (hr3.mono n4.ext).eraseIdx _, ?_, upd_same, hbD4, hwD4,
                (ha3.mono n4.ext).append (.cons (ry.mono n4.ext) .nil), ?_, ?_, ?_⟩
              · rw [upd_ne nDl.symm, upd_same]
              · rw [List.length_eraseIdx_of_lt hk]; omega
              · rw [List.length_append, hac]; rfl
              · rw [List.length_eraseIdx_of_lt hk, em, Nat.add_sub_cancel, hg]
              · rw [List.append_assoc]; exact hx
        · cases hm3
      · cases hm3
    · cases hm3
  · rintro H3 ⟨u3, Hb3, ysR, dsR, acc, accD, xs', n3, hl3, hbl3, hwl3, hr3, hi3, hD3, hbD3, hwD3, ha3, hac, hm3, hx⟩
    have e0 : dsR.length = 0 := by omega
    rw [e0] at hm3
    cases hm3
    rw [List.append_nil] at hx
    subst hx
    exact q _ _ _ (n3.settle hD0 hbD3 hwD3 hD3) (.lst upd_same (ha3.mono (Ex.new hbD3)))
theorem mix_sem {K : PySem.W.Frag} {xr : XR} {pick : List Arg → Src → Rs Src D} {N : List Str} {vs : List V} {H : Hp} {Q : VK} {E : XK} {Z : Ends} (hN : N.length = 4) (h : SpD K xr 2 (mMixed pick) vs H Q E) (hz : ∀ v H', Q v H' → Z.rt v H') :
    tMix K (SpD K xr 2 pick) Z (L2.start N vs) H := by
  obtain ⟨hlen, s, c, u, Hb, as, hne, wf, ar, q⟩ := h
  have hq : ∀ r : Rs Src D, Post (Cw K xr (wE E) s c) H u Hb H [] r (RE (Cw K xr (wE E) s c)) Q → r ≠ .bad := fun r z e => by rw [e] at z; exact z
  have go : ∀ (ds : List D) (p : Addr) (ys : List V) (v1 : V), v1 = .ref p → vs = [.ref s, v1] → (SqL K H p ys ∨ SqT K H p ys) → RpL K Hb ys ds → Post (Cw K xr (wE E) s c) H u Hb H [] (mixAll pick ds u) (RE (Cw K xr (wE E) s c)) Q →
      tMix K (SpD K xr 2 pick) Z (L2.start N vs) H := by
    intro ds p ys v1 e1 ev hs hr hp
    subst e1
    subst ev
    have est : L2.start N [V.ref s, V.ref p] = [some (.ref s), some (.ref p), none, none] := by
      unfold L2.start
      rw [hN]
      rfl
    rw [est]
    unfold mixAll at hp
    split at hp
    · rename_i hk
      split at hp
      · rename_i r hm
        refine ⟨_, rfl, p, ys, rfl, hs, fun l hl => ?_⟩
        have fl := wf.fresh hl
        exact mix_go (xr := xr) hne (xs := r.1) (uf := r.2) hk (Nxt.allocO wf hl) hl upd_same fl.1 fl.2 hr hm fun v Hb' H' n z => hz _ _ (hp v Hb' H' n z)
      · exact hp.elim
    · exact hp.elim
  unfold mMixed at q
  split at q
  · rename_i ds
    cases ar with
    | cons h1 r1 => cases r1 with
      | cons h2 r2 => cases r2 with
        | nil =>
          have h1 : _ = V.ref s := h1
          have h2 : Rp K Hb _ (.list ds) := h2
          subst h1
          cases h2 with
          | lst ha hr => exact go ds _ _ _ rfl rfl (.inl (SqL.of (wf.sub.lst ha))) hr q
  · rename_i ds
    cases ar with
    | cons h1 r1 => cases r1 with
      | cons h2 r2 => cases r2 with
        | nil =>
          have h1 : _ = V.ref s := h1
          have h2 : Rp K Hb _ (.tuple ds) := h2
          subst h1
          cases h2 with
          | tup ha hr => exact go ds _ _ _ rfl rfl (.inr (SqT.of (wf.sub.tupl ha))) hr q
  · exact q.elim
end DL

namespace DL
open PySem L2
open Evl (Ex)

/-! ### the rules again, told by the context's written part -/
section
variable {U : Type} {X : Cx} {C : Ctx U} {K : PySem.W.Frag} {e a b c tg : Expr} {te ta tb tc : TE} {fe fa fb fc : EF U D} {es : List Expr} {tas : TA} {fas : EF U (List Arg)} {pos p : Pos}
def rAddC (K : PySem.W.Frag) : R2 := fun x y H Q => rI0 (fun i j => .int (i + j)) x y H Q ∨ (rCat x y H Q ∨ (rCatA K x y H Q ∨ ∃ i j, x = .str i ∧ y = .str j ∧ i.length + j.length ≤ sizeLine ∧ Q (.str (i ++ j)) H))
def rMulC (K : PySem.W.Frag) : R2 := fun x y H Q => rI CMulX (fun i j => .int (i * j)) x y H Q ∨ (rRep x y H Q ∨ rRepT K x y H Q)
def rEqC (K : PySem.W.Frag) : R2 := fun x y H Q => rEq x y H Q ∨ rEqD K x y H Q
def rNeC (K : PySem.W.Frag) : R2 := fun x y H Q => rNe x y H Q ∨ rNeD K x y H Q
def rInC (K : PySem.W.Frag) : R2 := fun x y H Q => rIn K false x y H Q ∨ rInD K x y H Q
def rNinC (K : PySem.W.Frag) : R2 := fun x y H Q => rIn K true x y H Q ∨ rNotInD K x y H Q
theorem y_add (hK : X.K = K) (hC : C.K = K) (ha : XP X C a ta fa) (hb : XP X C b tb fb) : XE X C (.BinOp a .Add b pos) (tOp (rAddC K) ta tb) (fBin addD fa fb) := by
  subst hK
  have hK := hC.symm
  exact x_bin opr_add (ops_add hK) ha hb
theorem y_mul (hK : X.K = K) (hC : C.K = K) (ha : XP X C a ta fa) (hb : XP X C b tb fb) : XE X C (.BinOp a .Mult b pos) (tOp (rMulC K) ta tb) (fBin mulD fa fb) := by
  subst hK
  have hK := hC.symm
  exact x_bin opr_mul (ops_mul hK) ha hb
section
variable (hu : X.A.units + 65 < cLine) (hK : X.K = K) (hC : C.K = K) (ha : XP X C a ta fa) (hb : XP X C b tb fb)
include hu hK hC ha hb
theorem y_eq (hm : behindInMarks .Eq b = false := by first | exact nobehind _ (by decide) (by decide) | rfl) : XE X C (.Compare a [.Eq] [b] pos) (tOp (rEqC K) ta tb) (fBin eqV fa fb) := by
  subst hK
  have hK := hC.symm
  exact x_cmp (opr_eq (by omega)) (ops_eq hK) ha hb hm
theorem y_ne (hm : behindInMarks .NotEq b = false := by first | exact nobehind _ (by decide) (by decide) | rfl) : XE X C (.Compare a [.NotEq] [b] pos) (tOp (rNeC K) ta tb) (fBin neV fa fb) := by
  subst hK
  have hK := hC.symm
  exact x_cmp (opr_ne (by omega)) (ops_ne hK) ha hb hm
theorem y_in (hm : behindInMarks .In b = false := by first | exact nobehind _ (by decide) (by decide) | rfl) : XE X C (.Compare a [.In] [b] pos) (tOp (rInC K) ta tb) (fBin inD fa fb) := by
  subst hK
  have hK := hC.symm
  exact x_cmp (opr_in hu) (ops_in hK) ha hb hm
theorem y_nin (hm : behindInMarks .NotIn b = false := by first | exact nobehind _ (by decide) (by decide) | rfl) : XE X C (.Compare a [.NotIn] [b] pos) (tOp (rNinC K) ta tb) (fBin notInD fa fb) := by
  subst hK
  have hK := hC.symm
  exact x_cmp (opr_notIn hu) (ops_notIn hK) ha hb hm
theorem yt_eq (hm : behindInMarks .Eq b = false := by first | exact nobehind _ (by decide) (by decide) | rfl) : XT X C (.Compare a [.Eq] [b] pos) (tTest (tOp (rEqC K) ta tb)) (fB (fBin eqV fa fb)) := by
  subst hK
  have hK := hC.symm
  exact xt_cmp (opr_eq (by omega)) (ops_eq hK) ha hb hm
theorem yt_ne (hm : behindInMarks .NotEq b = false := by first | exact nobehind _ (by decide) (by decide) | rfl) : XT X C (.Compare a [.NotEq] [b] pos) (tTest (tOp (rNeC K) ta tb)) (fB (fBin neV fa fb)) := by
  subst hK
  have hK := hC.symm
  exact xt_cmp (opr_ne (by omega)) (ops_ne hK) ha hb hm
theorem yt_in (hm : behindInMarks .In b = false := by first | exact nobehind _ (by decide) (by decide) | rfl) : XT X C (.Compare a [.In] [b] pos) (tTest (tOp (rInC K) ta tb)) (fB (fBin inD fa fb)) := by
  subst hK
  have hK := hC.symm
  exact xt_cmp (opr_in hu) (ops_in hK) ha hb hm
theorem yt_nin (hm : behindInMarks .NotIn b = false := by first | exact nobehind _ (by decide) (by decide) | rfl) : XT X C (.Compare a [.NotIn] [b] pos) (tTest (tOp (rNinC K) ta tb)) (fB (fBin notInD fa fb)) := by
  subst hK
  have hK := hC.symm
  exact xt_cmp (opr_notIn hu) (ops_notIn hK) ha hb hm
end
theorem y_ix (hK : X.K = K) (hC : C.K = K) (ha : XP X C a ta fa) (hb : XP X C b tb fb) (hs : PlainIx b := by exact fun _ _ => rfl) : XE X C (.Subscript a b pos) (tOp (rIx K) ta tb) (fBin ixQ fa fb) := by
  subst hK
  have hK := hC.symm
  exact x_ix hK ha hb hs
def rSlC (K : PySem.W.Frag) : V → Option Int → Option Int → Hp → VK → Prop := fun x lo hi H Q => rSlL K x lo hi H Q ∨ rSlA K x lo hi H Q
theorem y_slice (hK : X.K = K) (hC : C.K = K) {lo hi : Option Expr} {tl th : TO} {fl fh : EF U (Option Int)} {p2 : Pos} (ha : XP X C e te fe) (hl : XO X C lo tl fl) (hh : XO X C hi th fh) : XE X C (.Subscript e (.Slice lo hi none p2) pos) (tSl (rSlC K) te tl th) (fSlice fe fl fh) := by
  subst hK
  have hK := hC.symm
  exact x_slice hK ha hl hh
/-! built-ins -/
section
variable {x : Str} {fps : EF U (List D)} (hK : X.K = K) (hC : C.K = K) (hg : Gl X x)
  (hm : X.mg x = none)
include hK hC hg hm
theorem y_len (hv : bootBuiltins x = some (.builtin "len")) (ha : XPs X C (e :: es) tas fps) (hn : x ≠ "__name__" := by decide) (hdb : (x == ("__debug__" : Str)) = false := by decide)
    (he : starEach (e :: es) X.env = (false, eval e X.env) :: starEach es X.env := by rfl) (hpl : (backTo pos (starEach es X.env)).any (·.1) = false := by rfl) : XE X C (.Call (.Name x p) (e :: es) [] pos) (tCB (rLenV K) tas) (fCall lenD fps) := by
  subst hK
  have hK := hC.symm
  exact x_cb call_len (calls_len hK) hg hm hv ha hn hdb he hpl
theorem y_any (hc : X.calm = true) (hv : bootBuiltins x = some (.builtin "any")) (ha : XPs X C (e :: es) tas fps) (hn : x ≠ "__name__" := by decide) (hdb : (x == ("__debug__" : Str)) = false := by decide)
    (he : starEach (e :: es) X.env = (false, eval e X.env) :: starEach es X.env := by rfl) (hpl : (backTo pos (starEach es X.env)).any (·.1) = false := by rfl) : XE X C (.Call (.Name x p) (e :: es) [] pos) (tCB (rAny K) tas) (fCall anyD fps) := by
  subst hK
  have hK := hC.symm
  exact x_cb (cr_any hc) (calls_any hK) hg hm hv ha hn hdb he hpl
theorem y_all (hc : X.calm = true) (hv : bootBuiltins x = some (.builtin "all")) (ha : XPs X C (e :: es) tas fps) (hn : x ≠ "__name__" := by decide) (hdb : (x == ("__debug__" : Str)) = false := by decide)
    (he : starEach (e :: es) X.env = (false, eval e X.env) :: starEach es X.env := by rfl) (hpl : (backTo pos (starEach es X.env)).any (·.1) = false := by rfl) : XE X C (.Call (.Name x p) (e :: es) [] pos) (tCB (rAll K) tas) (fCall allD fps) := by
  subst hK
  have hK := hC.symm
  exact x_cb (cr_all hc) (calls_all hK) hg hm hv ha hn hdb he hpl
theorem y_sum (hc : X.calm = true) (hv : bootBuiltins x = some (.builtin "sum")) (ha : XPs X C (e :: es) tas fps) (hn : x ≠ "__name__" := by decide) (hdb : (x == ("__debug__" : Str)) = false := by decide)
    (he : starEach (e :: es) X.env = (false, eval e X.env) :: starEach es X.env := by rfl) (hpl : (backTo pos (starEach es X.env)).any (·.1) = false := by rfl) : XE X C (.Call (.Name x p) (e :: es) [] pos) (tCB (rSum K) tas) (fCall sumD fps) := by
  subst hK
  have hK := hC.symm
  exact x_cb (cr_sum hc) (calls_sum hK) hg hm hv ha hn hdb he hpl
theorem y_max (hc : X.calm = true) (hv : bootBuiltins x = some (.builtin "max")) (ha : XPs X C (e :: es) tas fps) (hn : x ≠ "__name__" := by decide) (hdb : (x == ("__debug__" : Str)) = false := by decide)
    (he : starEach (e :: es) X.env = (false, eval e X.env) :: starEach es X.env := by rfl) (hpl : (backTo pos (starEach es X.env)).any (·.1) = false := by rfl) : XE X C (.Call (.Name x p) (e :: es) [] pos) (tCB (rMax K) tas) (fCall maxD fps) := by
  subst hK
  have hK := hC.symm
  exact x_cb (cr_max hc) (calls_max hK) hg hm hv ha hn hdb he hpl
theorem y_min (hc : X.calm = true) (hv : bootBuiltins x = some (.builtin "min")) (ha : XPs X C (e :: es) tas fps) (hn : x ≠ "__name__" := by decide) (hdb : (x == ("__debug__" : Str)) = false := by decide)
    (he : starEach (e :: es) X.env = (false, eval e X.env) :: starEach es X.env := by rfl) (hpl : (backTo pos (starEach es X.env)).any (·.1) = false := by rfl) : XE X C (.Call (.Name x p) (e :: es) [] pos) (tCB (rMin K) tas) (fCall minD fps) := by
  subst hK
  have hK := hC.symm
  exact x_cb (cr_min hc) (calls_min hK) hg hm hv ha hn hdb he hpl
def rReprV (K : PySem.W.Frag) : List V → Hp → VK → Prop := fun xs H Q => ∃ x d, xs = [x] ∧ Dp K H x d ∧ d.showable = true ∧ d.hasDict = false ∧ d.depth ≤ 60 ∧ d.shown.length ≤ sizeLine ∧ Q (.str d.shown) H
theorem y_repr (hgu : X.A.guards = some []) (hu : X.A.units + 64 < cLine) (hv : bootBuiltins x = some (.builtin "repr")) (ha : XPs X C (e :: es) tas fps) (hn : x ≠ "__name__" := by decide) (hdb : (x == ("__debug__" : Str)) = false := by decide)
    (he : starEach (e :: es) X.env = (false, eval e X.env) :: starEach es X.env := by rfl) (hpl : (backTo pos (starEach es X.env)).any (·.1) = false := by rfl) : XE X C (.Call (.Name x p) (e :: es) [] pos) (tCB (rReprV K) tas) (fCall reprD fps) := by
  subst hK
  have hK := hC.symm
  exact x_cb (callr_repr hgu hu) (calls_repr hK) hg hm hv ha hn hdb he hpl
theorem y_sorted (hv : bootBuiltins x = some (.builtin "sorted")) (ha : XPs X C (e :: es) tas fps) (hn : x ≠ "__name__" := by decide) (hdb : (x == ("__debug__" : Str)) = false := by decide)
    (he : starEach (e :: es) X.env = (false, eval e X.env) :: starEach es X.env := by rfl) (hpl : (backTo pos (starEach es X.env)).any (·.1) = false := by rfl) : XN X C (.Call (.Name x p) (e :: es) [] pos) (tCB (rSortedI K) tas) (fCall sortedD fps) := by
  subst hK
  have hK := hC.symm
  exact xn_cb cr_sortedI (calls_sorted hK) hg hm hv ha hn hdb he hpl
theorem y_list (hv : bootBuiltins x = some (.type "list")) (ha : XPs X C (e :: es) tas fps) (hn : x ≠ "__name__" := by decide) (hdb : (x == ("__debug__" : Str)) = false := by decide)
    (he : starEach (e :: es) X.env = (false, eval e X.env) :: starEach es X.env := by rfl) (hpl : (backTo pos (starEach es X.env)).any (·.1) = false := by rfl) : XN X C (.Call (.Name x p) (e :: es) [] pos) (tCB (rListV K) tas) (fCall listD fps) := by
  subst hK
  have hK := hC.symm
  exact xn_ct call_list_of (calls_list hK) hg hm hv ha hn hdb he hpl
def rTupV (K : PySem.W.Frag) : List V → Hp → VK → Prop := fun xs H Q => ∃ p ys, xs = [.ref p] ∧ ((SqL K H p ys ∧ ∀ l, H l = none → Q (.ref l) (upd H l (.tup ys))) ∨ (SqT K H p ys ∧ Q (.ref p) H))
theorem y_tuple (hv : bootBuiltins x = some (.type "tuple")) (ha : XPs X C (e :: es) tas fps) (hn : x ≠ "__name__" := by decide) (hdb : (x == ("__debug__" : Str)) = false := by decide)
    (he : starEach (e :: es) X.env = (false, eval e X.env) :: starEach es X.env := by rfl) (hpl : (backTo pos (starEach es X.env)).any (·.1) = false := by rfl) : XE X C (.Call (.Name x p) (e :: es) [] pos) (tCB (rTupV K) tas) (fCall tupleD fps) := by
  subst hK
  have hK := hC.symm
  exact x_ct call_tuple_of (calls_tuple hK) hg hm hv ha hn hdb he hpl
def rDictV (K : PySem.W.Frag) : List V → Hp → VK → Prop := fun xs H Q => ∃ (a : Addr) (ps : List Addr) (kvs : List (Key × V)), xs = [.ref a] ∧ SqL K H a (ps.map V.ref) ∧ Paired (fun p kv => SqT K H p [kV kv.1, kv.2]) ps kvs ∧ ∀ p, H p = none → Q (.ref p) (upd H p (.dK (mergeK [] kvs)))
theorem y_dict (hc : X.calm = true) (hv : bootBuiltins x = some (.type "dict")) (ha : XPs X C (e :: es) tas fps) (hn : x ≠ "__name__" := by decide) (hdb : (x == ("__debug__" : Str)) = false := by decide)
    (he : starEach (e :: es) X.env = (false, eval e X.env) :: starEach es X.env := by rfl) (hpl : (backTo pos (starEach es X.env)).any (·.1) = false := by rfl) : XN X C (.Call (.Name x p) (e :: es) [] pos) (tCB (rDictV K) tas) (fCall dictD fps) := by
  subst hK
  have hK := hC.symm
  exact xn_ct (call_dictP hc) (calls_dict hK) hg hm hv ha hn hdb he hpl
end
/-! iterables, targets -/
theorem yi_list (hK : X.K = K) (hC : C.K = K) (h : XE X C e te fe) : XI X C tg e (iList K te) (fSeqI fe) := by
  subst hK
  have hK := hC.symm
  exact xi_list hK h
theorem yi_tup (hK : X.K = K) (hC : C.K = K) (h : XE X C e te fe) : XI X C tg e (iTup K te) (fTupI fe) := by
  subst hK
  have hK := hC.symm
  exact xi_tup hK h
theorem yi_enum (hK : X.K = K) (hC : C.K = K) {elts : List Expr} {kk tpos} (hg : Gl X "enumerate") (hm : X.mg "enumerate" = none) (h : XE X C e te fe) (hs : starEach [e] X.env = [(false, eval e X.env)] := by rfl) (hs' : starEach [e] X.env = (false, eval e X.env) :: starEach [] X.env := by rfl) :
    XI X C (.Tuple elts kk tpos) (.Call (.Name "enumerate" p) [e] [] pos) (iEnum K (tCons te tNil)) (fEnum fe) := by
  subst hK
  have hK := hC.symm
  exact xi_enum hK hg hm h hs hs'
theorem yi_enumT (hK : X.K = K) (hC : C.K = K) {elts : List Expr} {kk tpos} (hg : Gl X "enumerate") (hm : X.mg "enumerate" = none) (h : XE X C e te fe) (hs : starEach [e] X.env = [(false, eval e X.env)] := by rfl) (hs' : starEach [e] X.env = (false, eval e X.env) :: starEach [] X.env := by rfl) :
    XI X C (.Tuple elts kk tpos) (.Call (.Name "enumerate" p) [e] [] pos) (iEnumT K (tCons te tNil)) (fEnumT fe) := by
  subst hK
  have hK := hC.symm
  exact xi_enumT hK hg hm h hs hs'
theorem yg_tup {gs : TGs} {fgs : List D → Env → Option Env} {is : List Nat} (hK : X.K = K) (hC : C.K = K) (hc : X.calm = true) {n k : Nat} (h : XGs X C es gs fgs is) (h1 : (assignEach es X.env).length = n := by rfl) (h2 : List.findIdx? (fun x => x.fst) (assignEach es X.env) = none := by rfl) :
    XG X C (.Tuple es k pos) (gTup K n gs) (gfTup n fgs) is := by
  subst hK
  have hK := hC.symm
  exact xg_tup hK hc h h1 h2
end
end DL

namespace DL
open PySem L2

/-! ### x is True, x is not False .. -/
def isBV (a b : D) : Option D := match a, b with
  | .bool i, .bool j => some (.bool (i == j))
  | _, _ => none
def isntBV (a b : D) : Option D := match a, b with
  | .bool i, .bool j => some (.bool (!(i == j)))
  | _, _ => none
theorem op_isB {X : Cx} : OpR X (compareOp .Is) (fun x y H Q => ∃ i j, x = .bl i ∧ y = .bl j ∧ Q (.bl (i == j)) H) := by
  intro pins s σ H x y v u Q I rx ry h
  obtain ⟨i, j, rfl, rfl, q⟩ := h
  cases rx
  cases ry
  unfold compareOp
  exact wpAny_pure (fin_bl I q (by cases i <;> cases j <;> rfl))
theorem op_isntB {X : Cx} : OpR X (compareOp .IsNot) (fun x y H Q => ∃ i j, x = .bl i ∧ y = .bl j ∧ Q (.bl (!(i == j))) H) := by
  intro pins s σ H x y v u Q I rx ry h
  obtain ⟨i, j, rfl, rfl, q⟩ := h
  cases rx
  cases ry
  unfold compareOp
  exact wpAny_pure (fin_bl I q (by cases i <;> cases j <;> rfl))
section
variable {U : Type} {C : Ctx U}
theorem ops_isB : OpS C (fun x y H Q => ∃ i j, x = .bl i ∧ y = .bl j ∧ Q (.bl (i == j)) H) isBV := fun x y dx dy d H0 u Hb H Q e w rx ry q => by
  unfold isBV at e
  split at e
  · cases e
    exact ⟨_, _, rx.bool, ry.bool, q _ Hb H (Nxt.refl w) (.bl _)⟩
  · cases e
theorem ops_isntB : OpS C (fun x y H Q => ∃ i j, x = .bl i ∧ y = .bl j ∧ Q (.bl (!(i == j))) H) isntBV := fun x y dx dy d H0 u Hb H Q e w rx ry q => by
  unfold isntBV at e
  split at e
  · cases e
    exact ⟨_, _, rx.bool, ry.bool, q _ Hb H (Nxt.refl w) (.bl _)⟩
  · cases e
end
end DL

namespace Mv
open PySem L2 DL
def b_law_pick : SF Src := (fSeq (fWhile (fAnd (fB (fBin (cmpI gtI) (fVar 1) (fC (.int 1)))) (fAnd (fB (fBin (cmpI ltI) (fSrcI .left 0) (fC (.int 2)))) (fB (fBin (cmpI gtI) (fSrcLen 0) (fC (.int 0)))))) (fSrcPut .left 0 (fSrcPop 0))) (fSeq (fAsg 2 (fSrcI .left 0)) (fSeq (fIfS (fOr (fB (fBin (cmpI ltI) (fVar 1) (fC (.int 2)))) (fB (fBin (cmpI gtI) (fVar 2) (fC (.int 1))))) (fSeq (fSrcPut .left 0 (fBin fdivD (fVar 2) (fCall max2D (fPCons (fC (.int 1)) (fPCons (fVar 1) fPNil))))) (fRet (fBin modD (fCall intD (fPCons (fVar 2) fPNil)) (fCall max2D (fPCons (fC (.int 1)) (fPCons (fVar 1) fPNil)))))) fNext) (fSeq (fSrcPut .turn 0 (fBin addD (fSrcI .turn 0) (fC (.int 1)))) (fSeq (fAsg 3 (fBin modD (fCall intD (fPCons (fBin addD (fSrcI .mixed 0) (fBin mulD (fSrcI .turn 0) (fC (.int 104729)))) fPNil)) (fC (.int 998244353)))) (fSeq (fAsg 3 (fBin modD (fCall intD (fPCons (fBin addD (fBin mulD (fVar 3) (fVar 3)) (fBin mulD (fSrcI .turn 0) (fC (.int 17)))) fPNil)) (fC (.int 2147483647)))) (fSeq (fSrcPut .mixed 0 (fVar 3)) (fRet (fBin modD (fCall intD (fPCons (fBin fdivD (fVar 3) (fC (.int 16))) fPNil)) (fVar 1))))))))))
def m_law_pick : MF := fnD 4 b_law_pick
def m_law_mixed : MF := mMixed m_law_pick
def b_is_long : SF Src := (fRet (fOrV (fBin (cmpI gtI) (fUn bitsD (fVar 0)) (fC (.int 997))) (fBin (cmpI gtI) (fCall lenD (fPCons (fCall strD (fPCons (fCall absD (fPCons (fVar 0) fPNil)) fPNil)) fPNil)) (fC (.int 300)))))
def m_is_long : MF := fnD 1 b_is_long
def b_not_long : SF Src := (fSeq (fIfS (fB (fCall anyD (fPCons (fLc (fTupI (fVar 0)) (gfName 1) fYes (fCallL 1 m_is_long (fACons (fVar 1) fANil)) [1]) fPNil))) fBad fNext) (fRet (fVar 0)))
def m_not_long : MF := fnD 2 b_not_long
def b_window_made : SF Src := (fRet (fCallL 1 m_not_long (fACons (fVar 0) fANil)))
def m_window_made : MF := fnD 1 b_window_made
def b_place_at : SF Src := (fSeq (fAsg 2 (fCall lenD (fPCons (fVar 0) fPNil))) (fRet (fBin subD (fBin addD (fBin ixQ (fVar 0) (fBin modD (fVar 1) (fVar 2))) (fVar 1)) (fBin modD (fVar 1) (fVar 2)))))
def m_place_at : MF := fnD 3 b_place_at
def b_window_thinned : SF Src := (fRet (fCallL 1 m_window_made (fACons (fCall tupleD (fPCons (fLc (fR1 (fBin mulD (fCall lenD (fPCons (fVar 0) fPNil)) (fVar 1))) (gfName 2) fYes (fCallL 2 m_place_at (fACons (fVar 0) (fACons (fVar 2) fANil))) [2]) fPNil)) fANil)))
def m_window_thinned : MF := fnD 3 b_window_thinned
def b_round_from : SF Src := (fSeq (fPar [2, 3, 4] (fMV (fCall lenD (fPCons (fVar 0) fPNil)) (fMO (fLst (fACons (fVar 1) fANil)) (fMV (fBin ixQ (fVar 0) (fVar 1)) fMNil)))) (fSeq (fWhile (fB (fBin neV (fBin modD (fVar 4) (fVar 2)) (fVar 1))) (fSeq (fApp 3 (fBin modD (fVar 4) (fVar 2))) (fAsg 4 (fCallL 2 m_place_at (fACons (fVar 0) (fACons (fVar 4) fANil)))))) (fRet (fTup (fACons (fCall tupleD (fPCons (fVarP 3) fPNil)) (fACons (fBin fdivD (fBin subD (fVar 4) (fVar 1)) (fVar 2)) fANil))))))
def m_round_from : MF := fnD 5 b_round_from
def b_rounds_told : SF Src := (fSeq (fPar [1, 2] (fMO (fLst fANil) (fMO fDNew fMNil))) (fSeq (fFor (fR1 (fCall lenD (fPCons (fVar 0) fPNil))) (gfName 3) (fIfS (fB (fBin dninD (fVar 3) (fVarP 2))) (fSeq (fAsg 4 (fCallL 2 m_round_from (fACons (fVar 0) (fACons (fVar 3) fANil)))) (fSeq (fApp 1 (fVar 4)) (fUpd 2 (fCall dictD (fPCons (fLc (fTupI (fBin ixQ (fVar 4) (fC (.int 0)))) (gfName 5) fYes (fTup (fACons (fVar 5) (fACons (fC (.bool true)) fANil))) [5]) fPNil))))) fNext)) (fRet (fCall tupleD (fPCons (fVarP 1) fPNil)))))
def m_rounds_told : MF := fnD 6 b_rounds_told
def b_law_of : SF Src := (fRet (fBin ixQ (fVar 1) (fCallL 2 m_law_pick (fATok 0 (fACons (fCall lenD (fPCons (fVar 1) fPNil)) fANil)))))
def m_law_of : MF := fnD 2 b_law_of
def b_push_told : SF Src := (fRet (fCall sumD (fPCons (fLc (fTupI (fVar 0)) (gfName 1) fYes (fBin fdivD (fVar 1) (fCall lenD (fPCons (fVar 0) fPNil))) [1]) fPNil)))
def m_push_told : MF := fnD 2 b_push_told
def b_least_common : SF Src := (fRet (fBin mulD (fBin fdivD (fVar 0) (fCall gcdD (fPCons (fVar 0) (fPCons (fVar 1) fPNil)))) (fVar 1)))
def m_least_common : MF := fnD 2 b_least_common
def b_cells_common : SF Src := (fSeq (fAsg 1 (fC (.int 1))) (fSeq (fFor (fTupI (fCallL 1 m_rounds_told (fACons (fVar 0) fANil))) (gfTup 2 (gfCons (gfName 2) (gfCons (gfName 3) gfNil))) (fAsg 1 (fCallL 2 m_least_common (fACons (fVar 1) (fACons (fCall lenD (fPCons (fVar 2) fPNil)) fANil))))) (fRet (fVar 1))))
def m_cells_common : MF := fnD 4 b_cells_common
def b_divisors_told : SF Src := (fRet (fCall tupleD (fPCons (fLc (fR2 (fC (.int 1)) (fBin addD (fVar 0) (fC (.int 1)))) (gfName 1) (fB (fBin eqV (fBin modD (fVar 0) (fVar 1)) (fC (.int 0)))) (fVar 1) [1]) fPNil)))
def m_divisors_told : MF := fnD 2 b_divisors_told
def b_line_sum : SF Src := (fRet (fTup (fACons (fBin addD (fBin ixQ (fVar 0) (fC (.int 0))) (fBin ixQ (fVar 1) (fC (.int 0)))) (fACons (fBin addD (fBin ixQ (fVar 0) (fC (.int 1))) (fBin ixQ (fVar 1) (fC (.int 1)))) fANil))))
def m_line_sum : MF := fnD 2 b_line_sum
def b_lines_whole : SF Src := (fRet (fLc (fTupI (fVar 0)) (gfName 3) fYes (fCallL 2 m_line_sum (fACons (fTup (fACons (fC (.int 0)) (fACons (fBin mulD (fUn negD (fBin ixQ (fVar 3) (fC (.int 0)))) (fVar 2)) fANil))) (fACons (fTup (fACons (fBin ixQ (fVar 3) (fC (.int 0))) (fACons (fBin mulD (fBin ixQ (fVar 3) (fC (.int 1))) (fVar 1)) fANil))) fANil))) [3]))
def m_lines_whole : MF := fnD 4 b_lines_whole
def b_least_rows : SF Src := (fSeq (fAsg 1 (fCall lenD (fPCons (fVar 0) fPNil))) (fSeq (fAsg 2 (fLc (fEnum (fVar 0)) (gfTup 2 (gfCons (gfName 5) (gfCons (gfName 4) gfNil))) fYes (fCallL 3 m_lines_whole (fACons (fVar 4) (fACons (fVar 1) (fACons (fVar 5) fANil)))) [5, 4])) (fSeq (fFor (fTupI (fCallL 1 m_divisors_told (fACons (fVar 1) fANil))) (gfName 3) (fIfS (fB (fCall allD (fPCons (fLc (fR1 (fVar 1)) (gfName 5) fYes (fBin eqV (fBin ixQ (fVar 2) (fVar 5)) (fBin ixQ (fVar 2) (fBin modD (fVar 5) (fVar 3)))) [5]) fPNil))) (fRet (fTup (fACons (fVar 3) (fACons (fCall tupleD (fPCons (fLc (fSeqI (fSlice (fVar 0) fNoPart (fPart (fVar 3)))) (gfName 4) fYes (fCall tupleD (fPCons (fLc (fTupI (fVar 4)) (gfName 6) fYes (fTup (fACons (fBin fdivD (fBin mulD (fBin ixQ (fVar 6) (fC (.int 0))) (fVar 3)) (fVar 1)) (fACons (fBin ixQ (fVar 6) (fC (.int 1))) fANil))) [6]) fPNil)) [4]) fPNil)) fANil)))) fNext)) fBad)))
def m_least_rows : MF := fnD 7 b_least_rows
def b_round_places : SF Src := (fSeq (fAsgO 2 (fLst (fACons (fBin ixQ (fVar 1) (fC (.int 0))) fANil))) (fSeq (fFor (fR1 (fBin subD (fCall lenD (fPCons (fVar 1) fPNil)) (fC (.int 1)))) (gfName 3) (fApp 2 (fCallL 2 m_place_at (fACons (fVar 0) (fACons (fBin ixQ (fVarP 2) (fUn negD (fC (.int 1)))) fANil))))) (fFrz 2 (fRet (fVar 2)))))
def m_round_places : MF := fnD 4 b_round_places
def b_place_along : SF Src := (fSeq (fPar [4, 5] (fMV (fBin fdivD (fVar 3) (fVar 1)) (fMV (fBin modD (fVar 3) (fVar 1)) fMNil))) (fRet (fBin addD (fBin ixQ (fVar 0) (fVar 5)) (fBin mulD (fVar 4) (fVar 2)))))
def m_place_along : MF := fnD 6 b_place_along
def b_row_lines : SF Src := (fSeq (fPar [3, 4] (fMV (fCall lenD (fPCons (fVar 0) fPNil)) (fMO fDNew fMNil))) (fSeq (fFor (fTupI (fCallL 1 m_rounds_told (fACons (fVar 0) fANil))) (gfTup 2 (gfCons (gfName 5) (gfCons (gfName 6) gfNil))) (fSeq (fPar [7, 8] (fMV (fCallL 2 m_round_places (fACons (fVar 0) (fACons (fVar 5) fANil))) (fMV (fBin mulD (fVar 6) (fVar 3)) fMNil))) (fFor (fEnumT (fVar 5)) (gfTup 2 (gfCons (gfName 9) (gfCons (gfName 10) gfNil))) (fSeq (fAsg 11 (fCallL 4 m_place_along (fACons (fVar 7) (fACons (fCall lenD (fPCons (fVar 5) fPNil)) (fACons (fVar 8) (fACons (fBin addD (fVar 9) (fVar 1)) fANil)))))) (fPut 4 (fVar 10) (fTup (fACons (fBin mulD (fBin fdivD (fVar 2) (fCall lenD (fPCons (fVar 5) fPNil))) (fVar 8)) (fACons (fBin subD (fBin addD (fVar 11) (fVar 10)) (fBin ixQ (fVar 7) (fVar 9))) fANil)))))))) (fRet (fCall tupleD (fPCons (fLc (fR1 (fVar 3)) (gfName 10) fYes (fBin dgetD (fVarP 4) (fVar 10)) [10]) fPNil)))))
def m_row_lines : MF := fnD 12 b_row_lines
def b_powers_told : SF Src := (fSeq (fAsg 1 (fCallL 1 m_cells_common (fACons (fVar 0) fANil))) (fSeq (fUnp (fCallL 1 m_least_rows (fACons (fLc (fR1 (fVar 1)) (gfName 6) fYes (fCallL 3 m_row_lines (fACons (fVar 0) (fACons (fVar 6) (fACons (fVar 1) fANil)))) [6]) fANil)) (gfTup 2 (gfCons (gfName 2) (gfCons (gfName 3) gfNil)))) (fSeq (fFor (fTupI (fVar 3)) (gfName 4) (fFor (fTupI (fVar 4)) (gfName 5) (fDrop (fCallL 1 m_not_long (fACons (fVar 5) fANil))))) (fRet (fTup (fACons (fVar 2) (fACons (fVar 3) fANil)))))))
def m_powers_told : MF := fnD 7 b_powers_told
def b_least_told : SF Src := (fSeq (fAsg 1 (fCall lenD (fPCons (fVar 0) fPNil))) (fSeq (fFor (fR2 (fC (.int 1)) (fBin addD (fVar 1) (fC (.int 1)))) (gfName 2) (fIfS (fAnd (fB (fBin eqV (fBin modD (fVar 1) (fVar 2)) (fC (.int 0)))) (fB (fCall allD (fPCons (fLc (fR1 (fVar 1)) (gfName 3) fYes (fBin eqV (fCallL 2 m_place_at (fACons (fVar 0) (fACons (fBin addD (fVar 3) (fVar 2)) fANil))) (fBin addD (fBin ixQ (fVar 0) (fVar 3)) (fVar 2))) [3]) fPNil)))) (fRet (fSlice (fVar 0) fNoPart (fPart (fVar 2)))) fNext)) (fRet (fVar 0))))
def m_least_told : MF := fnD 4 b_least_told
def b_are_one : SF Src := (fRet (fBin eqV (fCallL 1 m_least_told (fACons (fVar 0) fANil)) (fCallL 1 m_least_told (fACons (fVar 1) fANil))))
def m_are_one : MF := fnD 2 b_are_one
def b_order_told : SF Src := (fSeq (fIfS (fB (fCall anyD (fPCons (fLc (fTupI (fCallL 1 m_rounds_told (fACons (fVar 0) fANil))) (gfTup 2 (gfCons (gfName 2) (gfCons (gfName 1) gfNil))) fYes (fBin neV (fVar 1) (fC (.int 0))) [2, 1]) fPNil))) (fRet (fC .none)) fNext) (fRet (fCallL 1 m_cells_common (fACons (fVar 0) fANil))))
def m_order_told : MF := fnD 3 b_order_told
def b_power_told : SF Src := (fSeq (fPar [2, 3] (fMV (fCall lenD (fPCons (fVar 0) fPNil)) (fMO fDNew fMNil))) (fSeq (fFor (fTupI (fCallL 1 m_rounds_told (fACons (fVar 0) fANil))) (gfTup 2 (gfCons (gfName 4) (gfCons (gfName 5) gfNil))) (fSeq (fAsg 6 (fCallL 2 m_round_places (fACons (fVar 0) (fACons (fVar 4) fANil)))) (fFor (fEnumT (fVar 4)) (gfTup 2 (gfCons (gfName 7) (gfCons (gfName 8) gfNil))) (fSeq (fAsg 9 (fCallL 4 m_place_along (fACons (fVar 6) (fACons (fCall lenD (fPCons (fVar 4) fPNil)) (fACons (fBin mulD (fVar 5) (fVar 2)) (fACons (fBin addD (fVar 7) (fVar 1)) fANil)))))) (fPut 3 (fVar 8) (fBin subD (fBin addD (fVar 9) (fVar 8)) (fBin ixQ (fVar 6) (fVar 7)))))))) (fRet (fCallL 1 m_window_made (fACons (fCall tupleD (fPCons (fLc (fR1 (fVar 2)) (gfName 8) fYes (fBin dgetD (fVarP 3) (fVar 8)) [8]) fPNil)) fANil)))))
def m_power_told : MF := fnD 10 b_power_told
def b_place_back : SF Src := (fSeq (fAsg 2 (fCall lenD (fPCons (fVar 0) fPNil))) (fSeq (fAsg 3 (fBin ixQ (fLc (fR1 (fVar 2)) (gfName 4) (fB (fBin eqV (fBin modD (fBin subD (fBin ixQ (fVar 0) (fVar 4)) (fVar 1)) (fVar 2)) (fC (.int 0)))) (fVar 4) [4]) (fC (.int 0)))) (fRet (fBin subD (fBin addD (fVar 3) (fVar 1)) (fBin ixQ (fVar 0) (fVar 3))))))
def m_place_back : MF := fnD 5 b_place_back
def b_window_undone : SF Src := (fRet (fCallL 1 m_window_made (fACons (fCall tupleD (fPCons (fLc (fR1 (fCall lenD (fPCons (fVar 0) fPNil))) (gfName 1) fYes (fCallL 2 m_place_back (fACons (fVar 0) (fACons (fVar 1) fANil))) [1]) fPNil)) fANil)))
def m_window_undone : MF := fnD 2 b_window_undone
def b_window_on : SF Src := (fRet (fCallL 1 m_window_made (fACons (fCall tupleD (fPCons (fLc (fTupI (fVar 1)) (gfName 2) fYes (fCallL 2 m_place_at (fACons (fVar 0) (fACons (fVar 2) fANil))) [2]) fPNil)) fANil)))
def m_window_on : MF := fnD 3 b_window_on
def b_line_at : SF Src := (fRet (fBin addD (fBin mulD (fBin ixQ (fVar 0) (fC (.int 0))) (fVar 1)) (fBin ixQ (fVar 0) (fC (.int 1)))))
def m_line_at : MF := fnD 2 b_line_at
end Mv

namespace DL
open PySem L2
section
variable {U : Type} {i : Nat} {env : Env} {u : U} {fe fa fb fc : EF U D} {ft fu : EF U Bool} {fas : EF U (List DL.Arg)} {fps : EF U (List D)} {fms : EF U (List MA)} {f g : SF U} {d : D} {op : D → D → Option D} {op1 : D → Option D} {opl : List D → Option D}
@[simp] theorem ok_bind {α β : Type} (a : α) (u : U) (k : α → U → Rs U β) : (Rs.ok a u).bind k = k a u := rfl
@[simp] theorem bad_bind {α β : Type} (k : α → U → Rs U β) : (Rs.bad : Rs U α).bind k = .bad := rfl
@[simp] theorem some_lift {α : Type} (a : α) (u : U) : liftO (some a) u = .ok a u := rfl
@[simp] theorem none_lift {α : Type} (u : U) : liftO (none : Option α) u = .bad := rfl
@[simp] theorem ok_after {α : Type} (a : α) (u : U) (env : Env) (k : α → U → So U) : So.after (.ok a u) env k = k a u := rfl
@[simp] theorem fVar_app : fVar i env u = match env[i]? with | some (.val d) => .ok d u | _ => .bad := rfl
@[simp] theorem fVarP_app : fVarP i env u = match env[i]? with | some (.val d) => .ok d u | some (.own d) => .ok d u | _ => .bad := rfl
@[simp] theorem fC_app : fC d env u = .ok d u := rfl
@[simp] theorem fBin_app : fBin op fa fb env u = (fa env u).bind fun x u1 => (fb env u1).bind fun y u2 => liftO (op x y) u2 := rfl
@[simp] theorem fUn_app : fUn op1 fa env u = (fa env u).bind fun x u1 => liftO (op1 x) u1 := rfl
@[simp] theorem fCall_app : fCall opl fps env u = (fps env u).bind fun ds u1 => liftO (opl ds) u1 := rfl
@[simp] theorem fPNil_app : fPNil env u = .ok [] u := rfl
@[simp] theorem fPCons_app : fPCons fe fps env u = (fe env u).bind fun d u1 => (fps env u1).bind fun ds u2 => .ok (d :: ds) u2 := rfl
@[simp] theorem fANil_app : fANil env u = .ok [] u := rfl
@[simp] theorem fACons_app : fACons fe fas env u = (fe env u).bind fun d u1 => (fas env u1).bind fun ds u2 => .ok (.d d :: ds) u2 := rfl
@[simp] theorem fATok_app : fATok i fas env u = match env[i]? with | some .tok => (fas env u).bind fun ds u2 => .ok (.tok :: ds) u2 | _ => .bad := rfl
@[simp] theorem fSeq_app : fSeq f g env u = match f env u with | .nx env1 u1 => g env1 u1 | .rt d u1 => .rt d u1 | .bk env1 u1 => .bk env1 u1 | .ct env1 u1 => .ct env1 u1 | .ex e env1 u1 => .ex e env1 u1 | .bad => .bad := rfl
@[simp] theorem fAsg_app : fAsg i fe env u = So.after (fe env u) env fun d u1 => .nx (env.set i (.val d)) u1 := rfl
@[simp] theorem fAsgO_app : fAsgO i fe env u = So.after (fe env u) env fun d u1 => .nx (env.set i (.own d)) u1 := rfl
@[simp] theorem fRet_app : fRet fe env u = So.after (fe env u) env fun d u1 => .rt d u1 := rfl
@[simp] theorem fRetN_app : fRetN env u = .rt .none u := rfl
@[simp] theorem fDrop_app : fDrop fe env u = So.after (fe env u) env fun _ u1 => .nx env u1 := rfl
@[simp] theorem fIfS_app : fIfS ft f g env u = So.after (ft env u) env fun b u1 => if b = true then f env u1 else g env u1 := rfl
@[simp] theorem fB_app : fB fe env u = (fe env u).bind fun x u1 => match x with | .bool b => .ok b u1 | _ => .bad := rfl
@[simp] theorem fNot_app : fNot ft env u = (ft env u).bind fun b u1 => .ok (!b) u1 := rfl
@[simp] theorem fAnd_app : fAnd ft fu env u = (ft env u).bind fun b u1 => if b = true then fu env u1 else .ok false u1 := rfl
@[simp] theorem fOr_app : fOr ft fu env u = (ft env u).bind fun b u1 => if b = true then .ok true u1 else fu env u1 := rfl
@[simp] theorem fIf_app {α : Type} {fx fy : EF U α} : fIf ft fx fy env u = (ft env u).bind fun b u1 => if b = true then fx env u1 else fy env u1 := rfl
@[simp] theorem fToB_app : fToB ft env u = (ft env u).bind fun b u1 => .ok (.bool b) u1 := rfl
@[simp] theorem fNotV_app : fNotV fa env u = fToB (fNot (fB fa)) env u := rfl
@[simp] theorem fAndV_app : fAndV fa fb env u = (fB fa env u).bind fun b u1 => if b = true then fb env u1 else .ok (.bool false) u1 := rfl
@[simp] theorem fOrV_app : fOrV fa fb env u = (fB fa env u).bind fun b u1 => if b = true then .ok (.bool true) u1 else fb env u1 := rfl
@[simp] theorem fNext_app : fNext env u = .nx env u := rfl
@[simp] theorem fBad_app : (fBad : SF U) env u = .bad := rfl
@[simp] theorem fFrz_app : fFrz i f env u = match env[i]? with | some (.own d) => f (env.set i (.val d)) u | _ => f env u := rfl
@[simp] theorem fPar_app {is : List Nat} : fPar is fms env u = So.after (fms env u) env fun as u1 => match setM is as env with | some env' => .nx env' u1 | none => .bad := rfl
@[simp] theorem fMNil_app : fMNil env u = .ok [] u := rfl
@[simp] theorem fMV_app : fMV fe fms env u = (fe env u).bind fun d u1 => (fms env u1).bind fun ds u2 => .ok (.v d :: ds) u2 := rfl
@[simp] theorem fMO_app : fMO fe fms env u = (fe env u).bind fun d u1 => (fms env u1).bind fun ds u2 => .ok (.o d :: ds) u2 := rfl
@[simp] theorem fUnp_app {fg : D → Env → Option Env} : fUnp fe fg env u = So.after (fe env u) env fun d u1 => match fg d env with | some env' => .nx env' u1 | none => .bad := rfl
@[simp] theorem fApp_app : fApp i fe env u = match env[i]? with | some (.own (.list ds)) => So.after (fe env u) env fun d u1 => if ds.length < line100 then .nx (env.set i (.own (.list (ds ++ [d])))) u1 else .bad | _ => .bad := rfl
@[simp] theorem fPut_app : fPut i fa fb env u = match env[i]? with | some (.own (.dict des)) => So.after (fb env u) env fun v u1 => So.after (fa env u1) env fun k u2 => (match setD des k v with | some des' => .nx (env.set i (.own (.dict des'))) u2 | none => .bad) | _ => .bad := rfl
@[simp] theorem fTup_app : fTup fas env u = (fas env u).bind fun as u1 => match argsD as with | some ds => if ds.length ≤ line100 then .ok (.tuple ds) u1 else .bad | none => .bad := rfl
@[simp] theorem fLst_app : fLst fas env u = (fas env u).bind fun as u1 => match argsD as with | some ds => if ds.length ≤ line100 then .ok (.list ds) u1 else .bad | none => .bad := rfl
@[simp] theorem fSeqI_app : fSeqI fe env u = (fe env u).bind fun d u1 => match d with | .list ds => .ok ds u1 | _ => .bad := rfl
@[simp] theorem fTupI_app : fTupI fe env u = (fe env u).bind fun d u1 => match d with | .tuple ds => .ok ds u1 | _ => .bad := rfl
@[simp] theorem fEnum_app : fEnum fe env u = (fe env u).bind fun d u1 => match d with | .list ds => .ok (enumD ds) u1 | _ => .bad := rfl
@[simp] theorem fEnumT_app : fEnumT fe env u = (fe env u).bind fun d u1 => match d with | .tuple ds => .ok (enumD ds) u1 | _ => .bad := rfl
@[simp] theorem fDNew_app : fDNew env u = .ok (.dict []) u := rfl
@[simp] theorem fYes_app : fYes env u = .ok true u := rfl
@[simp] theorem gfName_app : gfName i d env = some (env.set i (.val d)) := rfl
@[simp] theorem gfNil_app : gfNil [] env = some env := rfl
@[simp] theorem gfCons_app {h : D → Env → Option Env} {k : List D → Env → Option Env} {ds : List D} : gfCons h k (d :: ds) env = (h d env).bind fun env1 => k ds env1 := rfl
@[simp] theorem gfTup_app {n : Nat} {k : List D → Env → Option Env} {ds : List D} : gfTup n k (.tuple ds) env = if ds.length = n then k ds env else none := rfl
@[simp] theorem fCallL_app {n : Nat} {m : MF} {fas : EF Src (List DL.Arg)} {u : Src} : fCallL n m fas env u = (fas env u).bind fun as u1 => if as.length = n then noEx (m as u1) else .bad := rfl
@[simp] theorem noEx_ok {α : Type} (a : α) : noEx (.ok a u : Rs U α) = .ok a u := rfl
@[simp] theorem fnD_app {N : Nat} {b : SF Src} {as : List DL.Arg} {u : Src} : fnD N b as u = match b (startE N as) u with | .rt d u' => .ok d u' | .nx _ u' => .ok .none u' | .ex e _ u' => .ex e u' | _ => .bad := rfl
@[simp] theorem small_line {n : Nat} (h : n < 1000) : (n ≤ line100) = True := eq_true (Nat.le_trans (Nat.le_of_lt h) (by decide))
end
@[simp] theorem startE_eq (N : Nat) (as : List DL.Arg) : startE N as = as.map DL.Arg.slot ++ List.replicate (N - as.length) .non := rfl
@[simp] theorem slot_d (x : D) : DL.Arg.slot (.d x) = .val x := rfl
@[simp] theorem slot_tok : DL.Arg.slot .tok = .tok := rfl
@[simp] theorem setM_nil (env : Env) : setM [] [] env = some env := rfl
@[simp] theorem setM_v (i : Nat) (is : List Nat) (d : D) (as : List MA) (env : Env) : setM (i :: is) (.v d :: as) env = setM is as (env.set i (.val d)) := rfl
@[simp] theorem setM_o (i : Nat) (is : List Nat) (d : D) (as : List MA) (env : Env) : setM (i :: is) (.o d :: as) env = setM is as (env.set i (.own d)) := rfl
@[simp] theorem argsD_nil : argsD [] = some [] := rfl
@[simp] theorem argsD_d (x : D) (r : List DL.Arg) : argsD (.d x :: r) = (argsD r).map (x :: ·) := rfl
@[simp] theorem ltI_eq (i j : Int) : ltI i j = decide (i < j) := rfl
@[simp] theorem leI_eq (i j : Int) : leI i j = decide (i ≤ j) := rfl
@[simp] theorem gtI_eq (i j : Int) : gtI i j = decide (j < i) := rfl
@[simp] theorem geI_eq (i j : Int) : geI i j = decide (j ≤ i) := rfl
@[simp] theorem lenD_t (ds : List D) : lenD [.tuple ds] = some (.int ds.length) := rfl
@[simp] theorem lenD_l (ds : List D) : lenD [.list ds] = some (.int ds.length) := rfl
@[simp] theorem subD_i (i j : Int) : subD (.int i) (.int j) = some (.int (i - j)) := rfl
@[simp] theorem negD_i (i : Int) : negD (.int i) = some (.int (-i)) := rfl
@[simp] theorem cmpI_i (p : Int → Int → Bool) (i j : Int) : cmpI p (.int i) (.int j) = some (.bool (p i j)) := rfl
@[simp] theorem tupleD_t (ds : List D) : tupleD [.tuple ds] = some (.tuple ds) := rfl
@[simp] theorem tupleD_l (ds : List D) : tupleD [.list ds] = some (.tuple ds) := rfl
@[simp] theorem listD_t (ds : List D) : listD [.tuple ds] = some (.list ds) := rfl
@[simp] theorem listD_l (ds : List D) : listD [.list ds] = some (.list ds) := rfl
@[simp] theorem absD_i (i : Int) : absD [.int i] = some (.int (if i < 0 then -i else i)) := rfl
@[simp] theorem intD_i (i : Int) : intD [.int i] = some (.int i) := rfl
@[simp] theorem max2D_i (i j : Int) : max2D [.int i, .int j] = some (.int (if j > i then j else i)) := rfl
@[simp] theorem gcdD_i (i j : Int) : gcdD [.int i, .int j] = some (.int (Nat.gcd i.natAbs j.natAbs : Nat)) := rfl
@[simp] theorem eqV_int (i j : Int) : DL.eqV (.int i) (.int j) = some (.bool (decide (i = j))) := rfl
@[simp] theorem neV_int (i j : Int) : DL.neV (.int i) (.int j) = some (.bool (!decide (i = j))) := rfl
end DL
namespace DL
open PySem L2
def tI (w : List Int) : D := .tuple (w.map .int)
def lI (w : List Int) : D := .list (w.map .int)
@[simp] theorem lenD_tI (w : List Int) : lenD [tI w] = some (.int w.length) := by simp [tI]
@[simp] theorem lenD_lI (w : List Int) : lenD [lI w] = some (.int w.length) := by simp [lI]
@[simp] theorem addD_int (i j : Int) : addD (.int i) (.int j) = some (.int (i + j)) := rfl
theorem modD_int {i j : Int} (h : 0 < j) : modD (.int i) (.int j) = some (.int (i % j)) := by
  unfold modD
  exact if_pos h
theorem fdivD_int {i j : Int} (h : 0 < j) (h2 : j.natAbs.log2 < 9000) : fdivD (.int i) (.int j) = some (.int (i / j)) := by
  unfold fdivD
  exact if_pos ⟨h, h2⟩
theorem mulD_int {i j : Int} (h : mulOk i j) : mulD (.int i) (.int j) = some (.int (i * j)) := by
  unfold mulD
  exact if_pos h
theorem ixN_nat {n k : Nat} (h : k < n) : ixN n (k : Int) = some k := by
  unfold ixN
  have h1 : ¬ ((k : Int) < 0) := by omega
  simp [h1, h]
theorem ixQ_tup {ds : List D} {i : Int} {d : D} (h0 : 0 ≤ i) (h : ds[i.toNat]? = some d) : ixQ (.tuple ds) (.int i) = some d := by
  show atI ds i = some d
  have hk : i.toNat < ds.length := (List.getElem?_eq_some_iff.mp h).1
  unfold atI
  rw [show ixN ds.length i = some i.toNat by
    have := ixN_nat hk
    rwa [Int.toNat_of_nonneg h0] at this]
  exact h
end DL
namespace Mv
open PySem L2 DL
/-- where a window leads a place -/
def at_ (w : List Int) (x : Int) : Int := w.getD (x % w.length).toNat 0 + x - x % w.length
theorem get_tI {w : List Int} {k : Nat} (h : k < w.length) : (w.map PyData.int)[k]? = some (.int (w.getD k 0)) := by
  rw [List.getElem?_map, List.getElem?_eq_getElem h, List.getD_eq_getElem?_getD, List.getElem?_eq_getElem h]
  rfl
theorem md_lt {n : Nat} (x : Int) (h : 0 < n) : 0 ≤ x % n ∧ x % n < n := ⟨Int.emod_nonneg _ (by omega), Int.emod_lt_of_pos _ (by omega)⟩
theorem place_at_eq {w : List Int} (hw : 0 < w.length) (x : Int) (u : Src) : m_place_at [.d (tI w), .d (.int x)] u = .ok (.int (at_ w x)) u := by
  have h := md_lt x hw
  have e := ixQ_tup (ds := w.map PyData.int) (i := x % w.length) h.1 (get_tI (by omega))
  have hw' : (0 : Int) < (w.length : Int) := by omega
  simp [m_place_at, b_place_at, tI, modD_int hw', e, at_]
end Mv

namespace Mv
open PySem L2 DL

/-! ### windows: plain mathematics -/
structure Win (w : List Int) : Prop where
  pos : 0 < w.length
  inj : ∀ i j : Nat, i < w.length → j < w.length → w.getD i 0 % (w.length : Int) = w.getD j 0 % (w.length : Int) → i = j
theorem nodup_len {α : Type} [DecidableEq α] : ∀ (l m : List α), l.Nodup → (∀ x ∈ l, x ∈ m) → l.length ≤ m.length
  | [], _, _, _ => Nat.zero_le _
  | a :: l, m, hd, hs => by
    have ha := hs a List.mem_cons_self
    have := nodup_len l (m.erase a) (List.nodup_cons.mp hd).2 fun x hx => by
      have hne : x ≠ a := fun e => (List.nodup_cons.mp hd).1 (e ▸ hx)
      exact (List.mem_erase_of_ne hne).mpr (hs x (List.mem_cons_of_mem _ hx))
    rw [List.length_erase_of_mem ha] at this
    have hp : 0 < m.length := List.length_pos_of_mem ha
    show l.length + 1 ≤ m.length
    omega
theorem nodup_all {α : Type} [DecidableEq α] (l m : List α) (hd : l.Nodup) (hs : ∀ x ∈ l, x ∈ m) (hl : m.length ≤ l.length) (y : α) (hy : y ∈ m) : y ∈ l := by
  by_cases h : y ∈ l
  · exact h
  · have := nodup_len (y :: l) m (List.nodup_cons.mpr ⟨h, hd⟩) fun x hx => by
      rcases List.mem_cons.mp hx with e | e
      · exact e ▸ hy
      · exact hs x e
    simp at this
    omega
section
variable {w : List Int}
theorem Win.surj (W : Win w) (y : Int) : ∃ i : Nat, i < w.length ∧ (w.getD i 0 - y) % (w.length : Int) = 0 := by
  have hn : (0 : Int) < w.length := by have := W.pos; omega
  have key := nodup_all ((List.range w.length).map fun i => (w.getD i 0 % (w.length : Int)).toNat) (List.range w.length) (by
      rw [List.nodup_iff_pairwise_ne, List.pairwise_map]
      refine (List.nodup_iff_pairwise_ne.mp List.nodup_range).imp_of_mem ?_
      intro a b ha hb hab e
      rw [List.mem_range] at ha hb
      apply hab
      apply W.inj a b ha hb
      have h1 := Int.emod_nonneg (w.getD a 0) (Int.ne_of_gt hn)
      have h2 := Int.emod_nonneg (w.getD b 0) (Int.ne_of_gt hn)
      omega)
    (by
      intro x hx
      obtain ⟨i, _, e⟩ := List.mem_map.mp hx
      rw [List.mem_range, ← e]
      have h1 := Int.emod_nonneg (w.getD i 0) (Int.ne_of_gt hn)
      have h2 := Int.emod_lt_of_pos (w.getD i 0) hn
      omega)
    (by simp) (y % (w.length : Int)).toNat (by
      rw [List.mem_range]
      have h1 := Int.emod_nonneg y (Int.ne_of_gt hn)
      have h2 := Int.emod_lt_of_pos y hn
      omega)
  obtain ⟨i, hi, e⟩ := List.mem_map.mp key
  refine ⟨i, List.mem_range.mp hi, ?_⟩
  have h1 := Int.emod_nonneg (w.getD i 0) (Int.ne_of_gt hn)
  have h2 := Int.emod_nonneg y (Int.ne_of_gt hn)
  have e' : w.getD i 0 % (w.length : Int) = y % (w.length : Int) := by omega
  exact Int.emod_eq_emod_iff_emod_sub_eq_zero.mp e'

theorem at_div (w : List Int) (x : Int) : at_ w x = w.getD (x % w.length).toNat 0 + w.length * (x / w.length) := by
  unfold at_
  have := Int.emod_add_mul_ediv x w.length
  omega
theorem at_add (w : List Int) (x k : Int) : at_ w (x + w.length * k) = at_ w x + w.length * k := by
  unfold at_
  rw [Int.add_mul_emod_self_left]
  omega
theorem at_mod (w : List Int) (x : Int) : at_ w x % w.length = w.getD (x % w.length).toNat 0 % w.length := by
  rw [at_div, Int.add_mul_emod_self_left]
theorem Win.at_inj (W : Win w) {x y : Int} (h : at_ w x = at_ w y) : x = y := by
  have hn : (0 : Int) < w.length := by have := W.pos; omega
  have hx := md_lt x W.pos
  have hy := md_lt y W.pos
  have e : (x % (w.length : Int)).toNat = (y % (w.length : Int)).toNat := W.inj _ _ (by omega) (by omega) (by rw [← at_mod, ← at_mod, h])
  have e2 : x % (w.length : Int) = y % (w.length : Int) := by omega
  unfold at_ at h
  rw [e2] at h
  omega
/-- the place that is led to y -/
def rest_ (w : List Int) (y : Int) : Nat := ((List.range w.length).find? fun i => decide ((w.getD i 0 - y) % (w.length : Int) = 0)).getD 0
def bk (w : List Int) (y : Int) : Int := rest_ w y + y - w.getD (rest_ w y) 0
theorem Win.rest_spec (W : Win w) (y : Int) : rest_ w y < w.length ∧ (w.getD (rest_ w y) 0 - y) % (w.length : Int) = 0 := by
  obtain ⟨i, hi, h⟩ := W.surj y
  unfold rest_
  cases e : (List.range w.length).find? fun i => decide ((w.getD i 0 - y) % (w.length : Int) = 0) with
  | none =>
    have := List.find?_eq_none.mp e i (List.mem_range.mpr hi)
    exact absurd (decide_eq_true h) this
  | some j =>
    have h1 := List.find?_some e
    have h2 := List.mem_of_find?_eq_some e
    exact ⟨List.mem_range.mp h2, of_decide_eq_true h1⟩
theorem Win.at_bk (W : Win w) (y : Int) : at_ w (bk w y) = y := by
  obtain ⟨h1, h2⟩ := W.rest_spec y
  have hn : (0 : Int) < w.length := by have := W.pos; omega
  have hd : w.getD (rest_ w y) 0 - y = w.length * ((w.getD (rest_ w y) 0 - y) / w.length) := by
    have := Int.emod_add_mul_ediv (w.getD (rest_ w y) 0 - y) w.length
    omega
  have e : bk w y = (rest_ w y : Int) + w.length * -((w.getD (rest_ w y) 0 - y) / w.length) := by
    unfold bk
    rw [Int.mul_neg]
    omega
  rw [e, at_add, at_div, Int.emod_eq_of_lt (by omega) (by omega), Int.ediv_eq_zero_of_lt (by omega) (by omega), Int.toNat_natCast, Int.mul_neg]
  omega
theorem Win.bk_at (W : Win w) (x : Int) : bk w (at_ w x) = x := W.at_inj (W.at_bk _)

/-! ### so often -/
def itN (f : Int → Int) : Nat → Int → Int
  | 0, x => x
  | k + 1, x => f (itN f k x)
def it (w : List Int) (k : Int) (x : Int) : Int := if 0 ≤ k then itN (at_ w) k.toNat x else itN (bk w) (-k).toNat x
theorem it_zero (w : List Int) (x : Int) : it w 0 x = x := rfl
theorem Win.it_succ (W : Win w) (k x : Int) : it w (k + 1) x = at_ w (it w k x) := by
  unfold it
  by_cases h : 0 ≤ k
  · rw [if_pos h, if_pos (by omega), show (k + 1).toNat = k.toNat + 1 by omega]
    rfl
  · rw [if_neg h]
    by_cases h1 : 0 ≤ k + 1
    · have : k = -1 := by omega
      subst this
      show x = at_ w (bk w x)
      rw [W.at_bk]
    · rw [if_neg h1, show (-k).toNat = (-(k + 1)).toNat + 1 by omega]
      show _ = at_ w (bk w _)
      rw [W.at_bk]
theorem it_uniq (W : Win w) (g : Int → Int) (hg : ∀ k, g (k + 1) = at_ w (g k)) (k : Int) : g k = it w k (g 0) := by
  have up : ∀ m : Nat, g m = it w m (g 0) := by
    intro m
    induction m with
    | zero => exact (it_zero w _).symm
    | succ m ih =>
      rw [show ((m + 1 : Nat) : Int) = (m : Int) + 1 by omega, hg, W.it_succ, ih]
  have down : ∀ m : Nat, g (-m) = it w (-m) (g 0) := by
    intro m
    induction m with
    | zero => exact (it_zero w _).symm
    | succ m ih =>
      apply W.at_inj
      rw [← hg, ← W.it_succ, show -((m + 1 : Nat) : Int) + 1 = -(m : Int) by omega, ih]
  by_cases h : 0 ≤ k
  · have := up k.toNat
    rwa [Int.toNat_of_nonneg h] at this
  · have := down (-k).toNat
    rwa [Int.toNat_of_nonneg (by omega), Int.neg_neg] at this
theorem Win.it_add (W : Win w) (j k x : Int) : it w (j + k) x = it w j (it w k x) := by
  have := it_uniq W (fun j => it w (j + k) x) (fun j => by
    show it w (j + 1 + k) x = _
    rw [show j + 1 + k = (j + k) + 1 by omega, W.it_succ]) j
  simpa using this
theorem Win.it_shift (W : Win w) (k x m : Int) : it w k (x + w.length * m) = it w k x + w.length * m := by
  have := it_uniq W (fun k => it w k x + w.length * m) (fun k => by
    show it w (k + 1) x + _ = _
    rw [W.it_succ, at_add]) k
  rw [it_zero] at this
  exact this.symm
theorem Win.it_one (W : Win w) (x : Int) : it w 1 x = at_ w x := by
  have := W.it_succ 0 x
  rwa [it_zero] at this
theorem Win.it_neg (W : Win w) (x : Int) : it w (-1) x = bk w x := rfl
/-- by a line of places and a step for each time through it -/
def Gf (P : List Int) (step k : Int) : Int := P.getD (k % P.length).toNat 0 + (k / P.length) * step
theorem Win.gf (W : Win w) {P : List Int} {step e : Int} (hm : 0 < P.length) (hs : ∀ j : Nat, j + 1 < P.length → P.getD (j + 1) 0 = at_ w (P.getD j 0)) (hl : at_ w (P.getD (P.length - 1) 0) = P.getD 0 0 + step)
    (he : step = w.length * e) (k : Int) : Gf P step k = it w k (P.getD 0 0) := by
  have hp : (0 : Int) < P.length := by omega
  have g0 : Gf P step 0 = P.getD 0 0 := by
    unfold Gf
    simp
  rw [← g0]
  refine it_uniq W (Gf P step) (fun k => ?_) k
  have hk := md_lt k hm
  have hdm := Int.emod_add_mul_ediv k P.length
  have hsh : ∀ z q : Int, at_ w (z + q * step) = at_ w z + q * step := fun z q => by
    rw [he, show q * (w.length * e) = w.length * (q * e) by rw [← Int.mul_assoc, Int.mul_comm q, Int.mul_assoc], at_add]
  unfold Gf
  rw [hsh]
  by_cases h : k % (P.length : Int) + 1 < P.length
  · have e1 : (k + 1) % (P.length : Int) = k % P.length + 1 := by
      rw [show k + 1 = (k % P.length + 1) + P.length * (k / P.length) by omega, Int.add_mul_emod_self_left, Int.emod_eq_of_lt (by omega) h]
    have e2 : (k + 1) / (P.length : Int) = k / P.length := by
      rw [show k + 1 = (k % P.length + 1) + P.length * (k / P.length) by omega, Int.add_mul_ediv_left _ _ (by omega), Int.ediv_eq_zero_of_lt (by omega) h, Int.zero_add]
    rw [e1, e2, show (k % (P.length : Int) + 1).toNat = (k % (P.length : Int)).toNat + 1 by omega, hs _ (by omega)]
  · have e0 : k % (P.length : Int) = P.length - 1 := by omega
    have ek : k + 1 = P.length * (k / P.length + 1) := by
      rw [Int.mul_add]
      omega
    have e1 : (k + 1) % (P.length : Int) = 0 := by rw [ek, Int.mul_emod_right]
    have e2 : (k + 1) / (P.length : Int) = k / P.length + 1 := by rw [ek, Int.mul_ediv_cancel_left _ (by omega)]
    rw [e1, e2, e0, show ((P.length : Int) - 1).toNat = P.length - 1 by omega, hl, Int.add_mul]
    simp only [Int.toNat_zero]
    omega
end
end Mv

namespace DL
open PySem L2

/-! ### loops and comprehensions, by what they keep -/
section
variable {U : Type} {fg : D → Env → Option Env} {fb : SF U} {ft : EF U Bool} {fe : EF U D}
theorem forD_inv (I : Nat → Env → U → Prop) : ∀ (ds : List D) (k : Nat) (env : Env) (u : U),
    (∀ i d env u, ds[i]? = some d → I (k + i) env u → ∃ e1 env' u', fg d env = some e1 ∧ fb e1 u = .nx env' u' ∧ I (k + i + 1) env' u') → I k env u → ∃ env' u', forD fg fb ds env u = .nx env' u' ∧ I (k + ds.length) env' u'
  | [], k, env, u, _, h => ⟨env, u, rfl, h⟩
  | d :: ds, k, env, u, hs, h => by
    obtain ⟨e1, env1, u1, h1, h2, h3⟩ := hs 0 d env u rfl h
    obtain ⟨env', u', h4, h5⟩ := forD_inv I ds (k + 1) env1 u1 (fun i d env u hd hi => by
      have := hs (i + 1) d env u hd (by rw [show k + (i + 1) = k + 1 + i by omega]; exact hi)
      rw [show k + (i + 1) + 1 = k + 1 + i + 1 by omega] at this
      exact this) h3
    refine ⟨env', u', ?_, ?_⟩
    · show (match fg d env with | none => _ | some env1 => _) = _
      rw [h1]
      show (match fb e1 u with | .nx env2 u2 => _ | .ct env2 u2 => _ | .bk env2 u2 => _ | .rt d u2 => _ | .ex e env2 u2 => _ | .bad => _) = _
      rw [h2]
      exact h4
    · rw [show k + (d :: ds).length = k + 1 + ds.length by rw [List.length_cons]; omega]
      exact h5
theorem for_run {fi : EF U (List D)} {env : Env} {u : U} {ds : List D} (I : Nat → Env → U → Prop) (hi : fi env u = .ok ds u)
    (hs : ∀ i d env u, ds[i]? = some d → I i env u → ∃ e1 env' u', fg d env = some e1 ∧ fb e1 u = .nx env' u' ∧ I (i + 1) env' u') (h0 : I 0 env u) : ∃ env' u', fFor fi fg fb env u = .nx env' u' ∧ I ds.length env' u' := by
  obtain ⟨env', u', h1, h2⟩ := forD_inv (fg := fg) (fb := fb) I ds 0 env u (fun i d env u hd h => by
    have := hs i d env u hd (by simpa using h)
    simpa using this) h0
  refine ⟨env', u', ?_, by simpa using h2⟩
  unfold fFor
  rw [hi]
  exact h1
theorem whileD_inv (I : Nat → Env → U → Prop) (n : Nat) (hs : ∀ k env u, k < n → I k env u → ∃ u1 env' u', ft env u = .ok true u1 ∧ fb env u1 = .nx env' u' ∧ I (k + 1) env' u') (he : ∀ env u, I n env u → ∃ u', ft env u = .ok false u' ∧ I n env u') :
    ∀ (fuel k : Nat) (env : Env) (u : U), k ≤ n → n - k < fuel → I k env u → ∃ env' u', whileD ft fb fuel env u = .nx env' u' ∧ I n env' u'
  | 0, _, _, _, _, h, _ => absurd h (Nat.not_lt_zero _)
  | fuel + 1, k, env, u, hk, hf, h => by
    by_cases e : k = n
    · subst e
      obtain ⟨u', h1, h2⟩ := he env u h
      refine ⟨env, u', ?_, h2⟩
      unfold whileD
      rw [h1]
      rfl
    · obtain ⟨u1, env1, u2, h1, h2, h3⟩ := hs k env u (by omega) h
      obtain ⟨env', u', h4, h5⟩ := whileD_inv I n hs he fuel (k + 1) env1 u2 (by omega) (by omega) h3
      refine ⟨env', u', ?_, h5⟩
      unfold whileD
      rw [h1]
      simp only [So.after, if_true, h2]
      exact h4
theorem while_run {env : Env} {u : U} (I : Nat → Env → U → Prop) (n : Nat) (hn : n < 100000) (hs : ∀ k env u, k < n → I k env u → ∃ u1 env' u', ft env u = .ok true u1 ∧ fb env u1 = .nx env' u' ∧ I (k + 1) env' u')
    (he : ∀ env u, I n env u → ∃ u', ft env u = .ok false u' ∧ I n env u') (h0 : I 0 env u) : ∃ env' u', fWhile ft fb env u = .nx env' u' ∧ I n env' u' := whileD_inv I n hs he 100000 0 env u (Nat.zero_le _) (by omega) h0
/-- a comprehension that leaves the world alone -/
theorem lcD_map {α : Type} {h k : α → D} {p : α → Bool} {env : Env} {u : U} : ∀ (l : List α), (∀ a ∈ l, ∃ e1, fg (h a) env = some e1 ∧ ft e1 u = .ok (p a) u ∧ (p a = true → fe e1 u = .ok (k a) u)) → lcD fg ft fe env (l.map h) u = .ok ((l.filter p).map k) u
  | [], _ => rfl
  | a :: l, hs => by
    obtain ⟨e1, h1, h2, h3⟩ := hs a List.mem_cons_self
    have ih := lcD_map l fun b hb => hs b (List.mem_cons_of_mem _ hb)
    rw [List.map_cons, lcD, h1]
    simp only [h2]
    cases e : p a with
    | true =>
      rw [List.filter_cons_of_pos e, List.map_cons]
      simp only [h3 e, ih]
      rfl
    | false =>
      rw [List.filter_cons_of_neg (by rw [e]; exact Bool.false_ne_true)]
      simp only [ih]
theorem lc_eval {α : Type} {h k : α → D} {p : α → Bool} {fi : EF U (List D)} {vs : List Nat} {env : Env} {u : U} (l : List α) (hi : fi env u = .ok (l.map h) u) (hl : l.length ≤ line100)
    (hs : ∀ a ∈ l, ∃ e1, fg (h a) (wipeE env vs) = some e1 ∧ ft e1 u = .ok (p a) u ∧ (p a = true → fe e1 u = .ok (k a) u)) : fLc fi fg ft fe vs env u = .ok (.list ((l.filter p).map k)) u := by
  unfold fLc
  rw [hi]
  show (if (l.map h).length ≤ line100 then _ else _) = _
  rw [if_pos (by rw [List.length_map]; exact hl), lcD_map l hs]
  rfl
theorem lc_all {α : Type} {h k : α → D} {fi : EF U (List D)} {vs : List Nat} {env : Env} {u : U} (l : List α) (hi : fi env u = .ok (l.map h) u) (hl : l.length ≤ line100)
    (hs : ∀ a ∈ l, ∃ e1, fg (h a) (wipeE env vs) = some e1 ∧ fe e1 u = .ok (k a) u) : fLc fi fg fYes fe vs env u = .ok (.list (l.map k)) u := by
  have := lc_eval (ft := fYes) (p := fun _ => true) (k := k) (fe := fe) (fg := fg) (vs := vs) l hi hl fun a ha => by
    obtain ⟨e1, h1, h2⟩ := hs a ha
    exact ⟨e1, h1, rfl, fun _ => h2⟩
  rw [this, List.filter_eq_self.mpr fun _ _ => rfl]
end
theorem line_of {n : Nat} (h : n ≤ 100000) : n ≤ line100 := h
/-- range(n) -/
theorem rg_list (n : Nat) : rgD 0 n = (List.range n).map fun i => PyData.int (i : Nat) := by
  unfold rgD
  simp
theorem r1_eval {U : Type} {fe : EF U D} {env : Env} {u : U} {n : Nat} (h : fe env u = .ok (.int (n : Nat)) u) (hn : n ≤ 100000) : fR1 fe env u = .ok ((List.range n).map fun i => PyData.int (i : Nat)) u := by
  unfold fR1 fI
  rw [h]
  show (if rgOk (0, (n : Int)) = true then _ else _) = _
  rw [if_pos (by unfold rgOk; simp; omega), rg_list]
end DL
namespace Mv
open PySem L2 DL
/-! ### numbers that are not long -/
def Short (n : Int) : Prop := n.natAbs < 10 ^ 300
theorem short_text {n : Int} (h : Short n) (h0 : 0 ≤ n) : (Str.ofString (toString n)).length ≤ 300 := by
  rw [ofString_length]
  cases n with
  | ofNat m =>
    show (Nat.repr m).length ≤ 300
    exact (Nat.length_repr_le_iff (by decide)).mpr h
  | negSucc m => exact absurd h0 (by omega)
theorem short_log {n : Int} (h : Short n) : n.natAbs.log2 < 997 := by
  by_cases h0 : n.natAbs = 0
  · rw [h0]; decide
  · exact (Nat.log2_lt h0).mpr (Nat.lt_trans h (by decide +kernel))
theorem is_long_eq {n : Int} (h : Short n) (u : Src) : m_is_long [.d (.int n)] u = .ok (.bool false) u := by
  have hb : ¬ (997 : Int) < (Builtin.Int.intBits n : Nat) := by
    have := short_log h
    unfold Builtin.Int.intBits
    split <;> omega
  have ha : Short (if n < 0 then -n else n) ∧ 0 ≤ (if n < 0 then -n else n) := by
    unfold Short at *
    split
    · exact ⟨by rw [Int.natAbs_neg]; exact h, by omega⟩
    · exact ⟨h, by omega⟩
  generalize hm : (if n < 0 then -n else n) = m at ha
  have hl := short_text ha.1 ha.2
  have hg := short_log ha.1
  have hs : strD [.int m] = some (.str (toString m)) := by
    unfold strD
    exact if_pos (by omega)
  have hlen : lenD [.str (toString m)] = some (.int (Str.ofString (toString m)).length) := by
    unfold lenD
    exact if_pos (Nat.le_trans hl (by decide))
  have hlt : ¬ (300 : Int) < ((Str.ofString (toString m)).length : Nat) := by omega
  simp only [m_is_long, b_is_long, fnD, startE, fRet, So.after, fOrV, fB, fBin, fUn, fCall, fPCons, fPNil, fVar, fC, Rs.bind, liftO, bitsD, absD, Arg.slot, List.map_cons, List.map_nil, List.length_cons, List.length_nil, List.replicate, List.append_nil,
    List.cons_append, List.getElem?_cons_zero, cmpI, gtI, hm, hs, hlen]
  simp only [decide_eq_false hb, decide_eq_false hlt]
  rfl
end Mv

namespace Mv
open PySem L2 DL
theorem not_long_eq {ns : List Int} (h : ∀ n ∈ ns, Short n) (hl : ns.length ≤ 100000) (u : Src) : m_not_long [.d (tI ns)] u = .ok (tI ns) u := by
  have e := lc_all (h := PyData.int) (k := fun _ : Int => PyData.bool false) (fi := fTupI (fVar 0)) (fg := gfName 1) (fe := fCallL 1 m_is_long (fACons (fVar 1) fANil)) (vs := [1]) (env := [.val (tI ns), .non]) (u := u) ns rfl hl
    (fun n hn => ⟨[.val (tI ns), .val (.int n)], rfl, by simp [is_long_eq (h n hn)]⟩)
  have hb : anyD [.list (ns.map fun _ => PyData.bool false)] = some (.bool false) := by
    show (boolsD (ns.map fun _ => PyData.bool false)).map _ = _
    rw [show (ns.map fun _ => PyData.bool false) = (ns.map fun _ => false).map PyData.bool by rw [List.map_map]; rfl, boolsD_map]
    simp
  simp [m_not_long, b_not_long, e, hb]
theorem window_made_eq {ns : List Int} (h : ∀ n ∈ ns, Short n) (hl : ns.length ≤ 100000) (u : Src) : m_window_made [.d (tI ns)] u = .ok (tI ns) u := by
  simp [m_window_made, b_window_made, not_long_eq h hl]
theorem place_back_eq {w : List Int} (W : Win w) (hl : w.length ≤ 100000) (y : Int) (u : Src) : m_place_back [.d (tI w), .d (.int y)] u = .ok (.int (bk w y)) u := by
  have hn : (0 : Int) < w.length := by have := W.pos; omega
  let p : Nat → Bool := fun i => decide ((w.getD i 0 - y) % (w.length : Int) = 0)
  have e := lc_eval (h := fun i : Nat => PyData.int i) (k := fun i : Nat => PyData.int i) (p := p) (fi := fR1 (fVar 2)) (fg := gfName 4) (ft := fB (fBin eqV (fBin modD (fBin subD (fBin ixQ (fVar 0) (fVar 4)) (fVar 1)) (fVar 2)) (fC (.int 0)))) (fe := fVar 4) (vs := [4])
    (env := [.val (tI w), .val (.int y), .val (.int w.length), .non, .non]) (u := u) (List.range w.length) (r1_eval rfl hl) (by rw [List.length_range]; exact hl)
    (fun i hi => ⟨[.val (tI w), .val (.int y), .val (.int w.length), .non, .val (.int i)], rfl, by
      have e := ixQ_tup (ds := w.map PyData.int) (i := (i : Int)) (by omega) (get_tI (w := w) (k := i) (List.mem_range.mp hi))
      simp [tI, e, modD_int hn, eqV_int, p], fun _ => rfl⟩)
  have hf : ((List.range w.length).filter p)[0]? = some (rest_ w y) := by
    rw [← List.head?_eq_getElem?, List.head?_filter]
    unfold rest_
    obtain ⟨i, hi, h⟩ := W.surj y
    cases e : (List.range w.length).find? p with
    | none => exact absurd (decide_eq_true h) (List.find?_eq_none.mp e i (List.mem_range.mpr hi))
    | some j => rfl
  have e2 : ixQ (.list (((List.range w.length).filter p).map fun i : Nat => PyData.int i)) (.int 0) = some (.int (rest_ w y)) := by
    show atI _ 0 = _
    have h0 : (((List.range w.length).filter p).map fun i : Nat => PyData.int i)[0]? = some (.int (rest_ w y)) := by
      rw [List.getElem?_map, hf]
      rfl
    have hk := (List.getElem?_eq_some_iff.mp h0).1
    unfold atI
    rw [show (0 : Int) = ((0 : Nat) : Int) from rfl, ixN_nat hk]
    exact h0
  have e3 := ixQ_tup (ds := w.map PyData.int) (i := ((rest_ w y : Nat) : Int)) (by omega) (get_tI (w := w) (k := rest_ w y) (W.rest_spec y).1)
  have hlen : lenD [tI w] = some (.int w.length) := by simp [tI]
  have e3 : ixQ (tI w) (.int (rest_ w y)) = some (.int (w.getD (rest_ w y) 0)) := e3
  simp [m_place_back, b_place_back, hlen, e, e2, e3, bk]
end Mv

namespace DL
open PySem L2
/-! ### dicts whose keys are numbers, as functions -/
structure DicI (des : List (D × D)) (f : Int → Option D) : Prop where
  keys : ∀ p ∈ des, ∃ x : Int, p.1 = .int x
  get : ∀ x : Int, findD des (.int x) = f x
theorem DicI.nil : DicI [] fun _ => none := ⟨fun _ h => (nomatch h), fun _ => rfl⟩
theorem DicI.noMark {des : List (D × D)} {f : Int → Option D} (h : DicI des f) {z : D} {r : List (D × D)} : des ≠ (.none, z) :: r := fun e => by
  obtain ⟨x, hx⟩ := h.keys (.none, z) (by rw [e]; exact List.mem_cons_self)
  cases hx
theorem DicI.look {des : List (D × D)} {f : Int → Option D} (h : DicI des f) (x : Int) : lookD des (.int x) = some (f x) := by
  unfold lookD
  split
  · rename_i e _; exact absurd rfl h.noMark
  · exact absurd rfl h.noMark
  · rename_i e; cases e; rw [h.get]
  · rename_i e; cases e
  · rename_i h1 h2 h3 h4; first | exact absurd rfl (h3 x) | exact absurd rfl (h2 x) | exact absurd rfl (h1 x)
theorem DicI.dget {des : List (D × D)} {f : Int → Option D} (h : DicI des f) (x : Int) : dgetD (.dict des) (.int x) = f x := by
  unfold dgetD
  simp only [h.look x]
  cases f x <;> rfl
theorem DicI.dnin {des : List (D × D)} {f : Int → Option D} (h : DicI des f) (x : Int) : dninD (.int x) (.dict des) = some (.bool (!(f x).isSome)) := by
  unfold dninD
  simp [h.look x]
theorem find_put (des : List (D × D)) (x y : Int) (v : D) (hk : ∀ p ∈ des, ∃ x : Int, p.1 = .int x) : findD (putD des (.int x) v) (.int y) = if x = y then some v else findD des (.int y) := by
  have kk : ∀ i j : Int, keq (.int i) (.int j) = decide (i = j) := fun _ _ => rfl
  have main : ∀ des : List (D × D), (∀ p ∈ des, ∃ x : Int, p.1 = .int x) → (des.any fun kv => keq kv.1 (.int x)) = true →
      findD (des.map fun kv => if keq kv.1 (.int x) = true then (kv.1, v) else kv) (.int y) = if x = y then some v else findD des (.int y) := by
    intro des
    induction des with
    | nil => intro _ h; cases h
    | cons p r ih =>
      intro hk ha
      obtain ⟨z, hz⟩ := hk p List.mem_cons_self
      obtain ⟨pk, pv⟩ := p
      have hz : pk = .int z := hz
      subst hz
      have hk' := fun q hq => hk q (List.mem_cons_of_mem _ hq)
      by_cases hzx : z = x
      · subst hzx
        by_cases hzy : z = y
        · subst hzy
          simp [findD, kk]
        · rw [if_neg hzy]
          by_cases hr : (r.any fun kv => keq kv.1 (.int z)) = true
          · have := ih hk' hr
            rw [if_neg hzy] at this
            simpa [findD, kk, hzy] using this
          · have e : (r.map fun kv => if keq kv.1 (.int z) = true then (kv.1, v) else kv) = r := by
              rw [List.map_congr_left (g := id) (fun q hq => ?_), List.map_id]
              have : ¬ keq q.1 (.int z) = true := fun hh => hr (List.any_eq_true.mpr ⟨q, hq, hh⟩)
              simp [this]
            rw [List.map_cons, e]
            simp [findD, kk, hzy]
      · have hr : (r.any fun kv => keq kv.1 (.int x)) = true := by
          simpa [kk, hzx] using ha
        have := ih hk' hr
        by_cases hzy : z = y
        · subst hzy
          have hne : ¬ x = z := fun e => hzx e.symm
          simp [findD, kk, hzx, hne]
        · simpa [findD, kk, hzx, hzy] using this
  unfold putD
  split
  · rename_i h; exact main des hk h
  · rename_i h
    have hx : findD des (.int x) = none := by
      unfold findD
      rw [List.find?_eq_none.mpr fun q hq hh => h (List.any_eq_true.mpr ⟨q, hq, hh⟩)]
      rfl
    unfold findD at hx ⊢
    rw [List.find?_append]
    by_cases e : x = y
    · subst e
      rw [if_pos rfl]
      rw [Option.map_eq_none_iff] at hx
      rw [hx]
      simp [kk]
    · rw [if_neg e]
      cases hf : des.find? fun kv => keq kv.1 (.int y) with
      | some q => rfl
      | none => simp [kk, e]
theorem DicI.put {des : List (D × D)} {f : Int → Option D} (h : DicI des f) (x : Int) (v : D) : DicI (putD des (.int x) v) fun y => if x = y then some v else f y := by
  refine ⟨fun p hp => ?_, fun y => by rw [find_put des x y v h.keys, h.get]⟩
  unfold putD at hp
  split at hp
  · obtain ⟨q, hq, e⟩ := List.mem_map.mp hp
    obtain ⟨z, hz⟩ := h.keys q hq
    refine ⟨z, ?_⟩
    rw [← e]
    split <;> exact hz
  · rcases List.mem_append.mp hp with hp | hp
    · exact h.keys p hp
    · rw [List.mem_singleton] at hp
      exact ⟨x, by rw [hp]⟩
theorem put_len (des : List (D × D)) (k v : D) : (putD des k v).length ≤ des.length + 1 := by
  unfold putD
  split
  · rw [List.length_map]; omega
  · rw [List.length_append]; simp
theorem DicI.set {des : List (D × D)} {f : Int → Option D} (h : DicI des f) (x : Int) (v : D) (hl : des.length < 100000) : setD des (.int x) v = some (putD des (.int x) v) := by
  unfold setD
  split
  · exact absurd rfl h.noMark
  · exact absurd rfl h.noMark
  · rename_i e; cases e; exact if_pos hl
  · rename_i e; cases e
  · rename_i h1 h2 h3 h4; first | exact absurd rfl (h3 x) | exact absurd rfl (h2 x) | exact absurd rfl (h1 x)
/-- a dict of numbers, each with True, put on -/
theorem DicI.merge {v : D} : ∀ (xs : List Int) {des : List (D × D)} {f : Int → Option D}, DicI des f → DicI (mergeD des (xs.map fun x => (.int x, v))) fun y => if y ∈ xs then some v else f y
  | [], des, f, h => by simpa [mergeD] using h
  | x :: xs, des, f, h => by
    have := DicI.merge (v := v) xs (h.put x v)
    refine ⟨this.keys, fun y => ?_⟩
    have g := this.get y
    show findD (mergeD (putD des (.int x) v) (xs.map fun x => (.int x, v))) (.int y) = _
    rw [g]
    by_cases e : y ∈ xs
    · simp [e]
    · by_cases e2 : x = y
      · simp [e, e2]
      · have : ¬ y = x := fun z => e2 z.symm
        simp [e, e2, this]
theorem merge_len (xs : List (D × D)) : ∀ des : List (D × D), (mergeD des xs).length ≤ des.length + xs.length := by
  induction xs with
  | nil => intro des; simp [mergeD]
  | cons x xs ih =>
    intro des
    have h1 := ih (putD des x.1 x.2)
    have h2 := put_len des x.1 x.2
    show (mergeD (putD des x.1 x.2) xs).length ≤ _
    rw [List.length_cons]
    omega
end DL

namespace Mv
open PySem L2 DL
section
variable {w : List Int}
theorem Win.n0 (W : Win w) : (0 : Int) < w.length := by have := W.pos; omega
theorem dvd_of_mod {a n : Int} (h : a % n = 0) : ∃ e, a = n * e := ⟨a / n, by have := Int.emod_add_mul_ediv a n; omega⟩
theorem Win.cyc_ex (W : Win w) (r : Int) : ∃ k : Nat, k < w.length ∧ (it w ((k : Int) + 1) r - r) % (w.length : Int) = 0 := by
  have hn := W.n0
  have hne : (w.length : Int) ≠ 0 := by omega
  refine Classical.byContradiction fun hno => ?_
  have nd : ((List.range (w.length + 1)).map fun j : Nat => (it w j r % (w.length : Int)).toNat).Nodup := by
    rw [List.nodup_iff_pairwise_ne, List.pairwise_map]
    refine List.pairwise_lt_range.imp_of_mem ?_
    intro i j hi hj hij e
    rw [List.mem_range] at hi hj
    have h1 := Int.emod_nonneg (it w i r) hne
    have h2 := Int.emod_nonneg (it w j r) hne
    have e' : it w j r % (w.length : Int) = it w i r % (w.length : Int) := by omega
    obtain ⟨c, hc⟩ := dvd_of_mod (Int.emod_eq_emod_iff_emod_sub_eq_zero.mp e')
    have h3 : it w ((j : Int) - i) r = r + w.length * c := by
      have h4 := W.it_add (-(i : Int)) j r
      rw [show it w j r = it w i r + w.length * c by omega, W.it_shift, ← W.it_add] at h4
      rw [show (j : Int) - i = -(i : Int) + j by omega, h4, show -(i : Int) + i = 0 by omega, it_zero]
    refine hno ⟨j - i - 1, by omega, ?_⟩
    rw [show (((j - i - 1 : Nat) : Int) + 1) = (j : Int) - i by omega, h3, show r + w.length * c - r = w.length * c by omega, Int.mul_emod_right]
  have := nodup_len _ (List.range w.length) nd fun x hx => by
    obtain ⟨j, _, e⟩ := List.mem_map.mp hx
    rw [List.mem_range, ← e]
    have h1 := Int.emod_nonneg (it w j r) hne
    have h2 := Int.emod_lt_of_pos (it w j r) hn
    omega
  simp at this
  omega
/-- how many cells the round of r has -/
def cyc (w : List Int) (r : Int) : Nat := ((List.range w.length).find? fun k : Nat => decide ((it w ((k : Int) + 1) r - r) % (w.length : Int) = 0)).getD 0 + 1
theorem Win.cyc_spec (W : Win w) (r : Int) : 1 ≤ cyc w r ∧ cyc w r ≤ w.length ∧ (it w (cyc w r) r - r) % (w.length : Int) = 0 ∧ ∀ k : Nat, 0 < k → k < cyc w r → (it w k r - r) % (w.length : Int) ≠ 0 := by
  obtain ⟨k, hk, h⟩ := W.cyc_ex r
  unfold cyc
  cases e : (List.range w.length).find? fun k : Nat => decide ((it w ((k : Int) + 1) r - r) % (w.length : Int) = 0) with
  | none => exact absurd (decide_eq_true h) (List.find?_eq_none.mp e k (List.mem_range.mpr hk))
  | some j =>
    rw [List.find?_range_eq_some] at e
    obtain ⟨h1, h2, h3⟩ := e
    rw [List.mem_range] at h2
    refine ⟨by simp, by simp; omega, ?_, fun i hi hlt => ?_⟩
    · have := of_decide_eq_true h1
      simpa using this
    · have h4 := h3 (i - 1) (by simp at hlt; omega)
      rw [show (((i - 1 : Nat) : Int) + 1) = (i : Int) by omega] at h4
      simpa using h4
def cells (w : List Int) (r : Int) : List Int := (List.range (cyc w r)).map fun j : Nat => it w j r % (w.length : Int)
def drift (w : List Int) (r : Int) : Int := (it w (cyc w r) r - r) / (w.length : Int)
theorem Win.drift_eq (W : Win w) (r : Int) : it w (cyc w r) r = r + w.length * drift w r := by
  have h := (W.cyc_spec r).2.2.1
  have := Int.emod_add_mul_ediv (it w (cyc w r) r - r) w.length
  unfold drift
  omega
theorem cells_len (w : List Int) (r : Int) : (cells w r).length = cyc w r := by simp [cells]
theorem cells_get (w : List Int) (r : Int) {j : Nat} (h : j < cyc w r) : (cells w r)[j]? = some (it w j r % (w.length : Int)) := by
  unfold cells
  rw [List.getElem?_map, List.getElem?_range h]
  rfl
/-! #### a round is gone round -/
theorem round_from_eq (W : Win w) (hl : w.length ≤ 1000) {r : Nat} (hr : r < w.length) (u : Src) : m_round_from [.d (tI w), .d (.int r)] u = .ok (.tuple [tI (cells w r), .int (drift w r)]) u := by
  have hn := W.n0
  obtain ⟨c1, c2, c3, c4⟩ := W.cyc_spec r
  have er : ((r : Nat) : Int) % (w.length : Int) = r := Int.emod_eq_of_lt (by omega) (by omega)
  have tst : ∀ z : Int, (z % (w.length : Int) = r) ↔ (z - r) % (w.length : Int) = 0 := fun z => by
    rw [← Int.emod_eq_emod_iff_emod_sub_eq_zero, er]
  obtain ⟨z, hz⟩ : ∃ z : Nat → Int, ∀ k, z k = it w k r := ⟨_, fun _ => rfl⟩
  obtain ⟨n, hnn⟩ : ∃ n : Int, n = w.length := ⟨_, rfl⟩
  obtain ⟨c, hc⟩ : ∃ c : Nat, cyc w r = c + 1 := ⟨cyc w r - 1, by omega⟩
  have z0 : z 0 = r := by rw [hz]; rfl
  have zs : ∀ k, at_ w (z k) = z (k + 1) := fun k => by rw [hz, hz]; exact (W.it_succ (k : Int) r).symm
  have hw0 : ixQ (tI w) (.int r) = some (.int (z 1)) := by
    have := ixQ_tup (ds := w.map PyData.int) (i := (r : Int)) (by omega) (get_tI (w := w) (k := r) hr)
    rw [← zs, z0]
    unfold at_
    rw [er]
    simp only [Int.toNat_natCast]
    rw [show w.getD r 0 + (r : Int) - r = w.getD r 0 by omega]
    exact this
  have hmod : ∀ x, modD (.int x) (.int n) = some (.int (x % n)) := fun x => modD_int (by omega)
  have hlen : lenD [tI w] = some (.int n) := by rw [hnn]; exact lenD_tI w
  obtain ⟨env', u', h1, h2⟩ := while_run (ft := fB (fBin DL.neV (fBin modD (fVar 4) (fVar 2)) (fVar 1))) (fb := fSeq (fApp 3 (fBin modD (fVar 4) (fVar 2))) (fAsg 4 (fCallL 2 m_place_at (fACons (fVar 0) (fACons (fVar 4) fANil)))))
    (env := [.val (tI w), .val (.int r), .val (.int n), .own (.list [.int r]), .val (.int (z 1))]) (u := u)
    (fun k env u' => u' = u ∧ env = [.val (tI w), .val (.int r), .val (.int n), .own (.list ((List.range (k + 1)).map fun j : Nat => .int (z j % n))), .val (.int (z (k + 1)))])
    c (by omega)
    (fun k env u' hk hi => by
      obtain ⟨rfl, rfl⟩ := hi
      refine ⟨u', _, u', ?_, ?_, rfl, rfl⟩
      · have hne : ¬ z (k + 1) % n = r := fun e => c4 (k + 1) (by omega) (by omega) ((tst _).mp (by rw [← hnn, ← hz]; exact e))
        simp [hmod, hne]
      · have hp := place_at_eq (w := w) W.pos (z (k + 1)) u'
        have hlt : k + 1 < line100 := Nat.lt_of_lt_of_le (show k + 1 < 1001 by omega) (by decide)
        rw [zs] at hp
        simp [hmod, hp, hlt, List.range_succ (n := k + 1)])
    (fun env u' hi => by
      obtain ⟨rfl, rfl⟩ := hi
      refine ⟨u', ?_, rfl, rfl⟩
      have e : z (c + 1) % n = r := by
        rw [hz, hnn, tst, ← hc]
        exact c3
      simp [hmod, e])
    ⟨rfl, by simp [er, z0, hnn]⟩
  obtain ⟨rfl, rfl⟩ := h2
  have hd : fdivD (.int (z (c + 1) - r)) (.int n) = some (.int (drift w r)) := by
    rw [hz, ← hc, hnn]
    refine fdivD_int hn ?_
    have : w.length.log2 ≤ w.length := Nat.log2_le_self _
    simp
    omega
  have hcell : tI (cells w r) = .tuple ((List.range (c + 1)).map fun j : Nat => .int (z j % n)) := by
    unfold tI cells
    rw [List.map_map, hc]
    congr 1
    refine List.map_congr_left fun j _ => ?_
    show PyData.int (it w j r % (w.length : Int)) = _
    rw [hz, hnn]
  rw [hcell]
  simp [m_round_from, b_round_from, hlen, hw0, h1, hd]
end
end Mv

namespace DL
open PySem L2
theorem fUpd_int {i : Nat} {fe : EF Src D} {env : Env} {u : Src} {des : List (D × D)} {f : Int → Option D} {xs : List Int} {v : D} (h : env[i]? = some (.own (.dict des))) (hd : DicI des f) (he : fe env u = .ok (.dict (mergeD [] (xs.map fun x => (.int x, v)))) u)
    (hx : DicI (mergeD [] (xs.map fun x => (.int x, v))) (fun y => if y ∈ xs then some v else none)) (hl : des.length + (mergeD [] (xs.map fun x => (PySem.PyData.int x, v))).length ≤ 100000) :
    fUpd i fe env u = .nx (env.set i (.own (.dict (mergeD des (mergeD [] (xs.map fun x => (.int x, v))))))) u := by
  unfold fUpd
  rw [h]
  cases des with
  | nil =>
    simp only [he, ok_after]
    generalize hm : mergeD [] (xs.map fun x => (PySem.PyData.int x, v)) = ms at *
    cases ms with
    | nil => simp
    | cons p r =>
      obtain ⟨k, y⟩ := p
      obtain ⟨x, ex⟩ := hx.keys (k, y) List.mem_cons_self
      have ex : k = .int x := ex
      subst ex
      simp only
      exact if_pos hl
  | cons q t =>
    obtain ⟨k, y⟩ := q
    obtain ⟨x, ex⟩ := hd.keys (k, y) List.mem_cons_self
    have ex : k = .int x := ex
    subst ex
    simp only [he, ok_after]
    generalize hm : mergeD [] (xs.map fun x => (PySem.PyData.int x, v)) = ms at *
    cases ms with
    | nil =>
      refine if_pos ?_
      have h3 : t.length + 1 ≤ 100000 := by
        simp only [List.length_cons, List.length_nil] at hl
        omega
      exact h3
    | cons p r =>
      obtain ⟨k, y⟩ := p
      obtain ⟨x, ex⟩ := hx.keys (k, y) List.mem_cons_self
      have ex : k = .int x := ex
      subst ex
      simp only
      exact if_pos hl
theorem pairsD_ints (v : D) : ∀ xs : List Int, pairsD (xs.map fun x => PySem.PyData.tuple [.int x, v]) = some (xs.map fun x => (PySem.PyData.int x, v))
  | [] => rfl
  | x :: r => by
    show (if isKey (.int x) = true then (pairsD (r.map fun x => PySem.PyData.tuple [.int x, v])).map ((PySem.PyData.int x, v) :: ·) else none) = _
    rw [if_pos (show isKey (.int x) = true from rfl), pairsD_ints v r]
    rfl
/-- a dict of one's own that has taken another: what it holds -/
theorem DicI.merge2 {des es : List (D × D)} {f : Int → Option D} {xs : List Int} {v : D} (h : DicI des f) (hx : DicI es (fun y => if y ∈ xs then some v else none)) (hv : ∀ p ∈ es, p.2 = v) :
    DicI (mergeD des es) fun y => if y ∈ xs then some v else f y := by
  have main : ∀ (es : List (D × D)) (des : List (D × D)) (f : Int → Option D), DicI des f → (∀ p ∈ es, ∃ x : Int, p.1 = .int x) → (∀ p ∈ es, p.2 = v) → DicI (mergeD des es) fun y => if (es.any fun kv => keq kv.1 (.int y)) = true then some v else f y := by
    intro es
    induction es with
    | nil => intro des f h _ _; simpa [mergeD] using h
    | cons p r ih =>
      intro des f h hk hv
      obtain ⟨x, ex⟩ := hk p List.mem_cons_self
      have ev := hv p List.mem_cons_self
      have := ih (putD des p.1 p.2) _ (by rw [ex, ev]; exact h.put x v) (fun q hq => hk q (List.mem_cons_of_mem _ hq)) (fun q hq => hv q (List.mem_cons_of_mem _ hq))
      refine ⟨this.keys, fun y => ?_⟩
      have g := this.get y
      show findD (mergeD (putD des p.1 p.2) r) (.int y) = _
      rw [g]
      have kk : keq p.1 (.int y) = decide (x = y) := by rw [ex]; rfl
      by_cases e1 : (r.any fun kv => keq kv.1 (.int y)) = true
      · simp [e1]
      · by_cases e2 : x = y <;> simp [e1, e2, kk]
  have m := main es des f h hx.keys hv
  refine ⟨m.keys, fun y => ?_⟩
  rw [m.get y]
  have hy := hx.get y
  by_cases e : y ∈ xs
  · rw [if_pos e] at hy ⊢
    rw [if_pos]
    unfold findD at hy
    cases ef : es.find? fun kv => keq kv.1 (.int y) with
    | none => rw [ef] at hy; cases hy
    | some q =>
      have hq := List.find?_some ef
      exact List.any_eq_true.mpr ⟨q, List.mem_of_find?_eq_some ef, hq⟩
  · rw [if_neg e] at hy ⊢
    rw [if_neg]
    intro ha
    obtain ⟨q, hq, hk⟩ := List.any_eq_true.mp ha
    unfold findD at hy
    rw [Option.map_eq_none_iff] at hy
    exact List.find?_eq_none.mp hy q hq hk
theorem merge_vals (v : D) : ∀ (xs : List Int) (des : List (D × D)), (∀ p ∈ des, p.2 = v) → ∀ p ∈ mergeD des (xs.map fun x => (PySem.PyData.int x, v)), p.2 = v
  | [], des, h, p, hp => h p hp
  | x :: xs, des, h, p, hp => by
    refine merge_vals v xs (putD des (.int x) v) (fun q hq => ?_) p hp
    unfold putD at hq
    split at hq
    · obtain ⟨q', hq', e⟩ := List.mem_map.mp hq
      rw [← e]
      split
      · rfl
      · exact h q' hq'
    · rcases List.mem_append.mp hq with hq | hq
      · exact h q hq
      · rw [List.mem_singleton] at hq
        rw [hq]
end DL
namespace Mv
open PySem L2 DL
/-- the rests that the rounds begin with -/
def starts (w : List Int) : Nat → List Nat
  | 0 => []
  | k + 1 => if (k : Int) ∈ (starts w k).flatMap (fun r : Nat => cells w r) then starts w k else starts w k ++ [k]
theorem starts_lt (w : List Int) : ∀ k, ∀ r ∈ starts w k, r < k
  | 0, _, h => by cases h
  | k + 1, r, h => by
    unfold starts at h
    split at h
    · exact Nat.lt_succ_of_lt (starts_lt w k r h)
    · rcases List.mem_append.mp h with h | h
      · exact Nat.lt_succ_of_lt (starts_lt w k r h)
      · rw [List.mem_singleton] at h; omega
theorem starts_len (w : List Int) : ∀ k, (starts w k).length ≤ k
  | 0 => Nat.le_refl _
  | k + 1 => by
    have := starts_len w k
    unfold starts
    split
    · omega
    · rw [List.length_append]; simp; omega
def roundD (w : List Int) (r : Nat) : D := .tuple [tI (cells w r), .int (drift w r)]
section
variable {w : List Int}
theorem Win.self_cell (W : Win w) {r : Nat} (hr : r < w.length) : (r : Int) ∈ cells w r := by
  have h := cells_get w r (j := 0) (by have := (W.cyc_spec r).1; omega)
  refine List.mem_of_getElem? (i := 0) ?_
  rw [h]
  show some (it w 0 r % (w.length : Int)) = _
  rw [it_zero, Int.emod_eq_of_lt (by omega) (by omega)]
theorem Win.covered (W : Win w) : ∀ k, k ≤ w.length → ∀ x : Nat, x < k → (x : Int) ∈ (starts w k).flatMap (fun r : Nat => cells w r)
  | 0, _, x, h => absurd h (Nat.not_lt_zero _)
  | k + 1, hk, x, h => by
    unfold starts
    split
    · rename_i hm
      by_cases e : x = k
      · subst e; exact hm
      · exact W.covered k (by omega) x (by omega)
    · rw [List.flatMap_append, List.mem_append]
      by_cases e : x = k
      · subst e
        right
        simpa using W.self_cell (by omega)
      · left
        exact W.covered k (by omega) x (by omega)
theorem rounds_told_eq (W : Win w) (hl : w.length ≤ 100) (u : Src) : m_rounds_told [.d (tI w)] u = .ok (.tuple ((starts w w.length).map (roundD w))) u := by
  have hr1 : ∀ env : DL.Env, env[0]? = some (Slot.val (tI w)) → fR1 (fCall lenD (fPCons (fVar 0) fPNil)) env u = .ok ((List.range w.length).map fun i => PyData.int (i : Nat)) u := fun env he => r1_eval (by simp [he]) (by omega)
  obtain ⟨env', u', h1, h2⟩ := for_run (fi := fR1 (fCall lenD (fPCons (fVar 0) fPNil))) (fg := gfName 3) (fb := (fIfS (fB (fBin dninD (fVar 3) (fVarP 2))) (fSeq (fAsg 4 (fCallL 2 m_round_from (fACons (fVar 0) (fACons (fVar 3) fANil)))) (fSeq (fApp 1 (fVar 4)) (fUpd 2 (fCall dictD (fPCons (fLc (fTupI (fBin ixQ (fVar 4) (fC (.int 0)))) (gfName 5) fYes (fTup (fACons (fVar 5) (fACons (fC (.bool true)) fANil))) [5]) fPNil))))) fNext))
    (env := [.val (tI w), .own (.list []), .own (.dict []), .non, .non, .non]) (u := u)
    (fun k env u' => u' = u ∧ ∃ (des : List (D × D)) (x3 x4 : Slot), env = [.val (tI w), .own (.list ((starts w k).map (roundD w))), .own (.dict des), x3, x4, .non] ∧ des.length ≤ k * w.length ∧
      DicI des fun y => if y ∈ (starts w k).flatMap (fun r : Nat => cells w r) then some (.bool true) else none)
    (hr1 _ rfl)
    (fun k d env u' hk hi => by
      obtain ⟨rfl, des, x3, x4, rfl, hlen, hd⟩ := hi
      rw [List.getElem?_map] at hk
      have hlt : k < w.length := by
        have := (List.getElem?_eq_some_iff.mp (by rw [← List.getElem?_map] at hk; exact hk)).1
        simpa using this
      rw [List.getElem?_range hlt] at hk
      cases hk
      by_cases hm : (k : Int) ∈ (starts w k).flatMap (fun r : Nat => cells w r)
      · refine ⟨[.val (tI w), .own (.list ((starts w k).map (roundD w))), .own (.dict des), .val (.int k), x4, .non], _, u', rfl, ?_, rfl, des, .val (.int k), x4, rfl, ?_, ?_⟩
        · have e := hd.dnin (k : Int)
          rw [if_pos hm] at e
          simp [e, starts, hm]
        · rw [Nat.add_mul]; omega
        · rw [show starts w (k + 1) = starts w k by rw [starts, if_pos hm]]
          exact hd
      · have hst : starts w (k + 1) = starts w k ++ [k] := by rw [starts, if_neg hm]
        have cl := cells_len w k
        obtain ⟨c1, c2, _, _⟩ := W.cyc_spec k
        have hx := DicI.merge (v := PyData.bool true) (cells w k) DicI.nil
        have hml : (mergeD [] ((cells w k).map fun x => (PyData.int x, PyData.bool true))).length ≤ w.length := by
          have := merge_len ((cells w k).map fun x => (PyData.int x, PyData.bool true)) []
          rw [List.length_map, cl] at this
          simp at this
          omega
        have hkw : k * w.length ≤ 100 * 100 := Nat.mul_le_mul (by omega) hl
        refine ⟨[.val (tI w), .own (.list ((starts w k).map (roundD w))), .own (.dict des), .val (.int k), x4, .non], _, u', rfl, ?_, rfl, mergeD des (mergeD [] ((cells w k).map fun x => (PyData.int x, PyData.bool true))), .val (.int k), .val (roundD w k), rfl, ?_, ?_⟩
        · have e := hd.dnin (k : Int)
          rw [if_neg hm] at e
          have hf := round_from_eq W (by omega) hlt u'
          have hsl := starts_len w k
          have hlc := lc_all (h := PyData.int) (k := fun x : Int => PyData.tuple [.int x, .bool true]) (fi := fTupI (fBin ixQ (fVar 4) (fC (.int 0)))) (fg := gfName 5) (fe := fTup (fACons (fVar 5) (fACons (fC (.bool true)) fANil))) (vs := [5])
            (env := [.val (tI w), .own (.list ((starts w k).map (roundD w) ++ [roundD w k])), .own (.dict des), .val (.int k), .val (roundD w k), .non]) (u := u') (cells w k)
            (by
              have : ixQ (roundD w k) (.int 0) = some (tI (cells w k)) := rfl
              simp [this, tI]) (by rw [cl]; exact Nat.le_trans c2 (by exact Nat.le_trans hl (by decide)))
            (fun x hx => ⟨[.val (tI w), .own (.list ((starts w k).map (roundD w) ++ [roundD w k])), .own (.dict des), .val (.int k), .val (roundD w k), .val (.int x)], rfl, by simp⟩)
          have hup := fUpd_int (i := 2) (fe := fCall dictD (fPCons (fLc (fTupI (fBin ixQ (fVar 4) (fC (.int 0)))) (gfName 5) fYes (fTup (fACons (fVar 5) (fACons (fC (.bool true)) fANil))) [5]) fPNil))
            (env := [.val (tI w), .own (.list ((starts w k).map (roundD w) ++ [roundD w k])), .own (.dict des), .val (.int k), .val (roundD w k), .non]) (u := u') (xs := cells w k) (v := .bool true) rfl hd
            (by
              have : dictD [.list ((cells w k).map fun x : Int => PyData.tuple [.int x, .bool true])] = some (.dict (mergeD [] ((cells w k).map fun x => (PyData.int x, PyData.bool true)))) := by
                show (pairsD _).map _ = _
                rw [pairsD_ints]
                rfl
              simp [hlc, this]) hx (by omega)
          have hll : ((starts w k).length < line100) = True := eq_true (Nat.lt_of_le_of_lt hsl (Nat.lt_of_lt_of_le (show k < 101 by omega) (by decide)))
          rw [hst]
          simp [e, hf, hll]
          exact hup
        · have := merge_len (mergeD [] ((cells w k).map fun x => (PyData.int x, PyData.bool true))) des
          rw [Nat.add_mul]
          omega
        · have m2 := hd.merge2 hx (merge_vals (.bool true) (cells w k) [] fun p hp => (nomatch hp))
          refine ⟨m2.keys, fun y => ?_⟩
          rw [m2.get y, hst, List.flatMap_append]
          by_cases a : y ∈ cells w k <;> by_cases b : y ∈ (starts w k).flatMap (fun r : Nat => cells w r) <;> simp [a, b])
    ⟨rfl, [], .non, .non, rfl, by simp, DicI.nil⟩
  obtain ⟨rfl, des, x3, x4, rfl, _, _⟩ := h2
  simp [m_rounds_told, b_rounds_told, h1]
end
end Mv

namespace DL
open PySem L2
theorem ixQ_list {ds : List D} {i : Int} {d : D} (h0 : 0 ≤ i) (h : ds[i.toNat]? = some d) : ixQ (.list ds) (.int i) = some d := ixQ_tup h0 h
theorem ixQ_last {ds : List D} {d : D} (h : ds.getLast? = some d) : ixQ (.list ds) (.int (-1)) = some d := by
  show atI ds (-1) = some d
  rw [List.getLast?_eq_getElem?] at h
  have hk := (List.getElem?_eq_some_iff.mp h).1
  unfold atI
  rw [show ixN ds.length (-1) = some (ds.length - 1) by
    unfold ixN
    have h1 : (-1 : Int) < 0 := by omega
    simp [h1]
    omega]
  exact h
theorem mulOk_small {i j : Int} (h : i.natAbs < 10 ^ 400) (h2 : j.natAbs < 10 ^ 400) : mulOk i j := by
  have lg : ∀ n : Nat, n < 10 ^ 400 → n.log2 < 2000 := fun n hn => by
    by_cases h0 : n = 0
    · subst h0; decide
    · exact (Nat.log2_lt h0).mpr (Nat.lt_trans hn (by decide +kernel))
  have h3 := lg _ h
  have h4 := lg _ h2
  exact .inr (.inr (by omega))
theorem getD_map_range {f : Nat → Int} {n k : Nat} (h : k < n) : ((List.range n).map f).getD k 0 = f k := by
  rw [List.getD_eq_getElem?_getD, List.getElem?_map, List.getElem?_range h]
  rfl
end DL
namespace Mv
open PySem L2 DL
section
variable {w : List Int}
def places (w : List Int) (r : Int) : List Int := (List.range (cyc w r)).map fun j : Nat => it w j r
theorem places_len (w : List Int) (r : Int) : (places w r).length = cyc w r := by simp [places]
theorem round_places_eq (W : Win w) (hl : w.length ≤ 100) {r : Nat} (hr : r < w.length) (u : Src) : m_round_places [.d (tI w), .d (tI (cells w r))] u = .ok (lI (places w r)) u := by
  have hn := W.n0
  obtain ⟨c1, c2, _, _⟩ := W.cyc_spec r
  obtain ⟨z, hz⟩ : ∃ z : Nat → Int, ∀ k, z k = it w k r := ⟨_, fun _ => rfl⟩
  obtain ⟨c, hc⟩ : ∃ c : Nat, cyc w r = c + 1 := ⟨cyc w r - 1, by omega⟩
  have z0 : z 0 = r := by rw [hz]; rfl
  have zs : ∀ k, at_ w (z k) = z (k + 1) := fun k => by rw [hz, hz]; exact (W.it_succ (k : Int) r).symm
  have h0 : ixQ (tI (cells w r)) (.int 0) = some (.int r) := by
    refine ixQ_tup (by omega) ?_
    rw [List.getElem?_map]
    have := cells_get w r (j := 0) (by omega)
    show Option.map _ (cells w r)[0]? = _
    rw [this]
    show some (PyData.int (it w 0 r % (w.length : Int))) = _
    rw [it_zero, Int.emod_eq_of_lt (by omega) (by omega)]
  have hlen : lenD [tI (cells w r)] = some (.int ((c : Int) + 1)) := by rw [lenD_tI, cells_len, hc]; rfl
  obtain ⟨env', u', h1, h2⟩ := for_run (fi := fR1 (fBin subD (fCall lenD (fPCons (fVar 1) fPNil)) (fC (.int 1)))) (fg := gfName 3) (fb := fApp 2 (fCallL 2 m_place_at (fACons (fVar 0) (fACons (fBin ixQ (fVarP 2) (fUn negD (fC (.int 1)))) fANil))))
    (env := [.val (tI w), .val (tI (cells w r)), .own (.list [.int r]), .non]) (u := u) (ds := (List.range c).map fun i => PyData.int (i : Nat))
    (fun k env u' => u' = u ∧ ∃ x3, env = [.val (tI w), .val (tI (cells w r)), .own (.list ((List.range (k + 1)).map fun j : Nat => .int (z j))), x3])
    (r1_eval (by simp [hlen]) (by omega))
    (fun k d env u' hk hi => by
      obtain ⟨rfl, x3, rfl⟩ := hi
      have hlt : k < c := by
        have := (List.getElem?_eq_some_iff.mp hk).1
        simpa using this
      rw [List.getElem?_map, List.getElem?_range hlt] at hk
      cases hk
      have hp := place_at_eq (w := w) W.pos (z k) u'
      rw [zs] at hp
      have hlast : ixQ (.list ((List.range (k + 1)).map fun j : Nat => PyData.int (z j))) (.int (-1)) = some (.int (z k)) := ixQ_last (by simp [List.range_succ])
      have hll : (k + 1 < line100) = True := eq_true (Nat.lt_of_lt_of_le (show k + 1 < 102 by omega) (by decide))
      refine ⟨[.val (tI w), .val (tI (cells w r)), .own (.list ((List.range (k + 1)).map fun j : Nat => .int (z j))), .val (.int k)], _, u', rfl, ?_, rfl, .val (.int k), rfl⟩
      simp [hlast, hp, hll, List.range_succ (n := k + 1)])
    ⟨rfl, .non, by simp [z0]⟩
  obtain ⟨rfl, x3, rfl⟩ := h2
  have hres : lI (places w r) = .list ((List.range (c + 1)).map fun j : Nat => PyData.int (z j)) := by
    unfold lI places
    rw [List.map_map, hc]
    congr 1
    refine List.map_congr_left fun j _ => ?_
    show PyData.int (it w j r) = _
    rw [hz]
  rw [hres]
  simp only [List.length_map, List.length_range] at h1
  simp [m_round_places, b_round_places, h0, h1]
theorem place_along_eq {P : List Int} (hp : 0 < P.length) (hl : P.length < 100000) {step k : Int} (hm : mulOk (k / P.length) step) (u : Src) :
    m_place_along [.d (lI P), .d (.int P.length), .d (.int step), .d (.int k)] u = .ok (.int (Gf P step k)) u := by
  have hn : (0 : Int) < P.length := by omega
  have h := md_lt k hp
  have hq : ixQ (lI P) (.int (k % P.length)) = some (.int (P.getD (k % P.length).toNat 0)) := ixQ_list h.1 (get_tI (by omega))
  have hd : fdivD (.int k) (.int P.length) = some (.int (k / P.length)) := fdivD_int hn (by
    have : P.length.log2 < 9000 := by
      by_cases h0 : P.length = 0
      · rw [h0]; decide
      · exact (Nat.log2_lt h0).mpr (Nat.lt_trans hl (Nat.lt_of_lt_of_le (show 100000 < 2 ^ 17 by decide) (Nat.pow_le_pow_right (by decide) (by decide))))
    simpa using this)
  simp [m_place_along, b_place_along, hq, hd, modD_int hn, mulD_int hm, Gf]
theorem Win.along (W : Win w) (r : Int) (k : Int) : Gf (places w r) (drift w r * w.length) k = it w k r := by
  obtain ⟨c1, c2, _, _⟩ := W.cyc_spec r
  have hg : ∀ j, j < cyc w r → (places w r).getD j 0 = it w j r := fun j hj => getD_map_range hj
  have := W.gf (P := places w r) (step := drift w r * w.length) (e := drift w r) (by rw [places_len]; omega) (fun j hj => by
      rw [places_len] at hj
      rw [hg _ hj, hg j (by omega)]
      exact W.it_succ (j : Int) r)
    (by
      rw [places_len, hg _ (by omega), hg 0 (by omega), ← W.it_succ, show ((cyc w r - 1 : Nat) : Int) + 1 = (cyc w r : Int) by omega, W.drift_eq, Int.mul_comm]
      rfl)
    (Int.mul_comm _ _) k
  rw [this, hg 0 (by omega)]
  rfl
/-- what one round puts into the dict -/
theorem Win.cell_val (W : Win w) (r number : Int) (j : Int) : it w (j + number) r + it w j r % (w.length : Int) - it w j r = it w number (it w j r % (w.length : Int)) := by
  have e := Int.emod_add_mul_ediv (it w j r) w.length
  have e2 : it w j r % (w.length : Int) = it w j r + w.length * -(it w j r / w.length) := by rw [Int.mul_neg]; omega
  rw [e2, W.it_shift, ← W.it_add, show number + j = j + number by omega]
  omega
end
end Mv

namespace DL
open PySem L2
theorem enum_ints (l : List Int) {i : Nat} {d : D} (h : (enumD (l.map PySem.PyData.int))[i]? = some d) : i < l.length ∧ d = .tuple [.int i, .int (l.getD i 0)] := by
  have hi : i < l.length := by
    have := (List.getElem?_eq_some_iff.mp h).1
    simpa [enumD] using this
  refine ⟨hi, ?_⟩
  rw [enumD_get (d := .int (l.getD i 0)) (Mv.get_tI hi)] at h
  exact (Option.some.inj h).symm
end DL
namespace Mv
open PySem L2 DL
section
variable {w : List Int}
theorem cells_getD (w : List Int) (r : Int) {j : Nat} (h : j < cyc w r) : (cells w r).getD j 0 = it w j r % (w.length : Int) := by
  rw [List.getD_eq_getElem?_getD, cells_get w r h]
  rfl
/-- how great a power's numbers may be -/
structure PowOk (w : List Int) (number : Int) : Prop where
  num : number.natAbs < 10 ^ 300
  dr : ∀ r : Nat, r < w.length → (drift w r * w.length).natAbs < 10 ^ 400
  short : ∀ x : Nat, x < w.length → Short (it w number x)
theorem div_abs {k : Int} {m : Nat} (hm : 0 < m) : (k / (m : Int)).natAbs ≤ k.natAbs := by
  have hm' : (1 : Int) ≤ m := by omega
  by_cases h : 0 ≤ k
  · have h1 := Int.ediv_nonneg h (show (0 : Int) ≤ m by omega)
    have h2 := Int.ediv_le_self m h
    omega
  · have h1 : k / (m : Int) < 0 := Int.ediv_neg_of_neg_of_pos (by omega) (by omega)
    have h2 := Int.emod_add_mul_ediv k m
    have h3 := Int.emod_lt_of_pos k (show (0 : Int) < m by omega)
    have h4 : (m : Int) * (k / m) ≤ k / m := by
      have := Int.mul_le_mul_of_nonpos_right hm' (show k / (m : Int) ≤ 0 by omega)
      omega
    have h5 : k ≤ k / (m : Int) := by
      rcases Int.lt_or_le (k / (m : Int)) k with h6 | h6
      · exfalso
        have h7 : (m : Int) * (k / m) ≤ m * (k - 1) := Int.mul_le_mul_of_nonneg_left (by omega) (by omega)
        have h8 : (m : Int) * (k - 1) = m * k - m := by rw [Int.mul_sub]; omega
        have h9 : (m : Int) * k ≤ k := by
          have := Int.mul_le_mul_of_nonpos_right hm' (show k ≤ 0 by omega)
          omega
        omega
      · exact h6
    omega
theorem PowOk.mul {number : Int} (p : PowOk w number) (W : Win w) (hl : w.length ≤ 100) {r j : Nat} (hr : r < w.length) (hj : j ≤ 100000) : mulOk (((j : Int) + number) / (cyc w r : Nat)) (drift w r * w.length) := by
  have h1 := div_abs (k := (j : Int) + number) (m := cyc w r) (by have := (W.cyc_spec r).1; omega)
  refine mulOk_small ?_ (p.dr r hr)
  have h2 := p.num
  have h3 : (10 : Nat) ^ 300 + 100000 < 10 ^ 400 := by decide +kernel
  omega
theorem power_round (W : Win w) (hl : w.length ≤ 100) {number : Int} (p : PowOk w number) {r : Nat} (hr : r < w.length) {des : List (D × D)} {f : Int → Option D} (hd : DicI des f) (hdl : des.length ≤ 20000) (x5 x6 x7 x8 x9 : Slot) (u : Src) :
    ∃ (des' : List (D × D)) (y7 y8 y9 : Slot),
      (fSeq (fAsg 6 (fCallL 2 m_round_places (fACons (fVar 0) (fACons (fVar 4) fANil)))) (fFor (fEnumT (fVar 4)) (gfTup 2 (gfCons (gfName 7) (gfCons (gfName 8) gfNil))) (fSeq (fAsg 9 (fCallL 4 m_place_along (fACons (fVar 6) (fACons (fCall lenD (fPCons (fVar 4) fPNil)) (fACons (fBin mulD (fVar 5) (fVar 2)) (fACons (fBin addD (fVar 7) (fVar 1)) fANil)))))) (fPut 3 (fVar 8) (fBin subD (fBin addD (fVar 9) (fVar 8)) (fBin ixQ (fVar 6) (fVar 7)))))))
        [.val (tI w), .val (.int number), .val (.int w.length), .own (.dict des), .val (tI (cells w r)), .val (.int (drift w r)), x6, x7, x8, x9] u =
      .nx [.val (tI w), .val (.int number), .val (.int w.length), .own (.dict des'), .val (tI (cells w r)), .val (.int (drift w r)), .val (lI (places w r)), y7, y8, y9] u ∧
      des'.length ≤ des.length + cyc w r ∧ DicI des' fun y => if y ∈ cells w r then some (.int (it w number y)) else f y := by
  have hn := W.n0
  obtain ⟨c1, c2, _, _⟩ := W.cyc_spec r
  have hrp := round_places_eq W hl hr u
  have hmn : mulD (.int (drift w r)) (.int w.length) = some (.int (drift w r * w.length)) := mulD_int (.inr (.inl (by omega)))
  have hlc : lenD [tI (cells w r)] = some (.int (cyc w r : Nat)) := by rw [lenD_tI, cells_len]
  obtain ⟨env', u', h1, h2⟩ := for_run (fi := fEnumT (fVar 4)) (fg := gfTup 2 (gfCons (gfName 7) (gfCons (gfName 8) gfNil))) (fb := (fSeq (fAsg 9 (fCallL 4 m_place_along (fACons (fVar 6) (fACons (fCall lenD (fPCons (fVar 4) fPNil)) (fACons (fBin mulD (fVar 5) (fVar 2)) (fACons (fBin addD (fVar 7) (fVar 1)) fANil)))))) (fPut 3 (fVar 8) (fBin subD (fBin addD (fVar 9) (fVar 8)) (fBin ixQ (fVar 6) (fVar 7))))))
    (env := [.val (tI w), .val (.int number), .val (.int w.length), .own (.dict des), .val (tI (cells w r)), .val (.int (drift w r)), .val (lI (places w r)), x7, x8, x9]) (u := u) (ds := enumD ((cells w r).map PyData.int))
    (fun k env u' => u' = u ∧ ∃ (des' : List (D × D)) (y7 y8 y9 : Slot), env = [.val (tI w), .val (.int number), .val (.int w.length), .own (.dict des'), .val (tI (cells w r)), .val (.int (drift w r)), .val (lI (places w r)), y7, y8, y9] ∧ des'.length ≤ des.length + k ∧
      DicI des' fun y => if y ∈ (cells w r).take k then some (.int (it w number y)) else f y)
    (by simp [tI])
    (fun k d env u' hk hi => by
      obtain ⟨rfl, des', y7, y8, y9, rfl, hlen, hd'⟩ := hi
      obtain ⟨hk', rfl⟩ := enum_ints _ hk
      rw [cells_len] at hk'
      obtain ⟨v, hv⟩ : ∃ v, v = (cells w r).getD k 0 := ⟨_, rfl⟩
      rw [← hv]
      have hcv : v = it w k r % (w.length : Int) := by rw [hv, cells_getD w r hk']
      have ha := place_along_eq (P := places w r) (by rw [places_len]; omega) (by rw [places_len]; omega) (step := drift w r * w.length) (k := (k : Int) + number) (by rw [places_len]; exact p.mul W hl hr (by omega)) u'
      rw [places_len, W.along] at ha
      have hq : ixQ (lI (places w r)) (.int k) = some (.int (it w k r)) := by
        refine ixQ_list (by omega) ?_
        rw [get_tI (by rw [places_len]; simpa using hk')]
        exact congrArg (fun z => some (PyData.int z)) (getD_map_range hk')
      have hs := hd'.set v (.int (it w number v)) (by omega)
      have hval := W.cell_val r number k
      rw [← hcv] at hval
      have hpl := put_len des' (.int v) (.int (it w number v))
      refine ⟨[.val (tI w), .val (.int number), .val (.int w.length), .own (.dict des'), .val (tI (cells w r)), .val (.int (drift w r)), .val (lI (places w r)), .val (.int k), .val (.int v), y9], _, u', by simp, ?_, rfl, putD des' (.int v) (.int (it w number v)), .val (.int k), .val (.int v), .val (.int (it w ((k : Int) + number) r)), rfl, by omega, ?_⟩
      · simp [hlc, hmn, ha, hq, hval, hs]
      · have hp := hd'.put v (.int (it w number v))
        refine ⟨hp.keys, fun y => ?_⟩
        rw [hp.get y, List.take_add_one, cells_get w r hk', ← hcv]
        by_cases e : v = y
        · subst e
          simp
        · have e' : ¬ y = v := fun z => e z.symm
          by_cases a : y ∈ (cells w r).take k <;> simp [e, e', a])
    ⟨rfl, des, x7, x8, x9, rfl, by omega, by simpa using hd⟩
  obtain ⟨rfl, des', y7, y8, y9, rfl, hlen, hd'⟩ := h2
  have hel : (enumD ((cells w r).map PyData.int)).length = cyc w r := by simp [enumD, cells_len]
  refine ⟨des', y7, y8, y9, ?_, by omega, ?_⟩
  · simp [hrp, h1]
  · rw [hel, List.take_of_length_le (by rw [cells_len]; omega)] at hd'
    exact hd'
theorem power_told_eq (W : Win w) (hl : w.length ≤ 100) {number : Int} (p : PowOk w number) (u : Src) : m_power_told [.d (tI w), .d (.int number)] u = .ok (tI ((List.range w.length).map fun x : Nat => it w number x)) u := by
  have hn := W.n0
  have hrt := rounds_told_eq W hl u
  have hsl := starts_len w w.length
  obtain ⟨env', u', h1, h2⟩ := for_run (fi := fTupI (fCallL 1 m_rounds_told (fACons (fVar 0) fANil))) (fg := gfTup 2 (gfCons (gfName 4) (gfCons (gfName 5) gfNil))) (fb := (fSeq (fAsg 6 (fCallL 2 m_round_places (fACons (fVar 0) (fACons (fVar 4) fANil)))) (fFor (fEnumT (fVar 4)) (gfTup 2 (gfCons (gfName 7) (gfCons (gfName 8) gfNil))) (fSeq (fAsg 9 (fCallL 4 m_place_along (fACons (fVar 6) (fACons (fCall lenD (fPCons (fVar 4) fPNil)) (fACons (fBin mulD (fVar 5) (fVar 2)) (fACons (fBin addD (fVar 7) (fVar 1)) fANil)))))) (fPut 3 (fVar 8) (fBin subD (fBin addD (fVar 9) (fVar 8)) (fBin ixQ (fVar 6) (fVar 7))))))))
    (env := [.val (tI w), .val (.int number), .val (.int w.length), .own (.dict []), .non, .non, .non, .non, .non, .non]) (u := u) (ds := (starts w w.length).map (roundD w))
    (fun k env u' => u' = u ∧ ∃ (des : List (D × D)) (y4 y5 y6 y7 y8 y9 : Slot), env = [.val (tI w), .val (.int number), .val (.int w.length), .own (.dict des), y4, y5, y6, y7, y8, y9] ∧ des.length ≤ k * w.length ∧
      DicI des fun y => if y ∈ ((starts w w.length).take k).flatMap (fun r : Nat => cells w r) then some (.int (it w number y)) else none)
    (by simp [hrt])
    (fun k d env u' hk hi => by
      obtain ⟨rfl, des, y4, y5, y6, y7, y8, y9, rfl, hlen, hd⟩ := hi
      rw [List.getElem?_map] at hk
      cases hr : (starts w w.length)[k]? with
      | none => rw [hr] at hk; cases hk
      | some r =>
        rw [hr] at hk
        cases hk
        have hrl := starts_lt w w.length r (List.mem_of_getElem? hr)
        have hkl := (List.getElem?_eq_some_iff.mp hr).1
        have hkw : k * w.length ≤ 100 * 100 := Nat.mul_le_mul (by omega) hl
        obtain ⟨des', z7, z8, z9, e1, e2, e3⟩ := power_round W hl p hrl hd (by omega) (.val (.int (drift w r))) y6 y7 y8 y9 u'
        have c2 := (W.cyc_spec r).2.1
        refine ⟨[.val (tI w), .val (.int number), .val (.int w.length), .own (.dict des), .val (tI (cells w r)), .val (.int (drift w r)), y6, y7, y8, y9], _, u', by simp [roundD], e1, rfl, des', _, _, _, z7, z8, z9, rfl, ?_, ?_⟩
        · rw [Nat.add_mul]; omega
        · refine ⟨e3.keys, fun y => ?_⟩
          rw [e3.get y, List.take_add_one, hr, List.flatMap_append]
          by_cases a : y ∈ cells w r <;> by_cases b : y ∈ ((starts w w.length).take k).flatMap (fun r : Nat => cells w r) <;> simp [a, b])
    ⟨rfl, [], .non, .non, .non, .non, .non, .non, rfl, by simp, by simpa using DicI.nil⟩
  obtain ⟨rfl, des, y4, y5, y6, y7, y8, y9, rfl, _, hd⟩ := h2
  rw [List.length_map, List.take_of_length_le (Nat.le_refl _)] at hd
  have hlc := lc_all (h := fun i : Nat => PyData.int i) (k := fun x : Nat => PyData.int (it w number x)) (fi := fR1 (fVar 2)) (fg := gfName 8) (fe := fBin dgetD (fVarP 3) (fVar 8)) (vs := [8])
    (env := [.val (tI w), .val (.int number), .val (.int w.length), .own (.dict des), y4, y5, y6, y7, y8, y9]) (u := u') (List.range w.length) (r1_eval rfl (by omega)) (by rw [List.length_range]; exact Nat.le_trans hl (by decide))
    (fun x hx => ⟨[.val (tI w), .val (.int number), .val (.int w.length), .own (.dict des), y4, y5, y6, y7, .val (.int x), y9], rfl, by
      have hg := hd.dget (x : Int)
      rw [if_pos (W.covered w.length (Nat.le_refl _) x (List.mem_range.mp hx))] at hg
      simp [hg]⟩)
  have hmade := window_made_eq (ns := (List.range w.length).map fun x : Nat => it w number x) (fun n hn' => by
      obtain ⟨x, hx, e⟩ := List.mem_map.mp hn'
      rw [← e]
      exact p.short x (List.mem_range.mp hx)) (by simp; omega) u'
  have htI : tI ((List.range w.length).map fun x : Nat => it w number x) = .tuple ((List.range w.length).map fun x : Nat => PyData.int (it w number x)) := by
    unfold tI
    rw [List.map_map]
    rfl
  rw [htI] at hmade ⊢
  simp [m_power_told, b_power_told, h1, hlc, hmade]
end
end Mv

namespace Mv
open PySem L2 DL
def LD (p : Int × Int) : D := .tuple [.int p.1, .int p.2]
def rowD (l : List (Int × Int)) : D := .tuple (l.map LD)
theorem ix0_LD (p : Int × Int) : ixQ (LD p) (.int 0) = some (.int p.1) := rfl
theorem ix1_LD (p : Int × Int) : ixQ (LD p) (.int 1) = some (.int p.2) := rfl
theorem line_sum_eq (p q : Int × Int) (u : Src) : m_line_sum [.d (LD p), .d (LD q)] u = .ok (LD (p.1 + q.1, p.2 + q.2)) u := by
  simp [m_line_sum, b_line_sum, ix0_LD, ix1_LD]
  rfl
theorem line_at_eq (p : Int × Int) (t : Int) (h : mulOk p.1 t) (u : Src) : m_line_at [.d (LD p), .d (.int t)] u = .ok (.int (p.1 * t + p.2)) u := by
  simp [m_line_at, b_line_at, ix0_LD, ix1_LD, mulD_int h]
def wholeL (m rest : Int) (p : Int × Int) : Int × Int := (0 + p.1, -p.1 * rest + p.2 * m)
theorem lines_whole_eq (l : List (Int × Int)) (hl : l.length ≤ 100000) {m rest : Nat} (hm : m ≤ 100000) (hr : rest ≤ 100000) (u : Src) : m_lines_whole [.d (rowD l), .d (.int m), .d (.int rest)] u = .ok (.list (l.map fun p => LD (wholeL m rest p))) u := by
  have e := lc_all (h := LD) (k := fun p => LD (wholeL m rest p)) (fi := fTupI (fVar 0)) (fg := gfName 3) (fe := (fCallL 2 m_line_sum (fACons (fTup (fACons (fC (.int 0)) (fACons (fBin mulD (fUn negD (fBin ixQ (fVar 3) (fC (.int 0)))) (fVar 2)) fANil))) (fACons (fTup (fACons (fBin ixQ (fVar 3) (fC (.int 0))) (fACons (fBin mulD (fBin ixQ (fVar 3) (fC (.int 1))) (fVar 1)) fANil))) fANil)))) (vs := [3])
    (env := [.val (rowD l), .val (.int m), .val (.int rest), .non]) (u := u) l rfl hl
    (fun p hp => ⟨[.val (rowD l), .val (.int m), .val (.int rest), .val (LD p)], rfl, by
      have h1 : mulD (.int (-p.1)) (.int rest) = some (.int (-p.1 * rest)) := mulD_int (.inr (.inl (by omega)))
      have h2 : mulD (.int p.2) (.int m) = some (.int (p.2 * m)) := mulD_int (.inr (.inl (by omega)))
      have h3 := line_sum_eq (0, -p.1 * rest) (p.1, p.2 * m) u
      simp only [LD] at h3
      simp [ix0_LD, ix1_LD, h1, h2]
      simp at h3
      simp [h3, wholeL, LD]⟩)
  simp [m_lines_whole, b_lines_whole, e]
/-- the divisors, less 1 -/
def dv (m : Nat) : List Nat := (List.range m).filter fun i => decide (m % (i + 1) = 0)
theorem modD_nat (m i : Nat) : modD (.int m) (.int ((i : Int) + 1)) = some (.int ((m % (i + 1) : Nat) : Int)) := by
  have e : ((i + 1 : Nat) : Int) = (i : Int) + 1 := by omega
  rw [modD_int (by omega), Int.natCast_emod, e]
theorem r2_eval {U : Type} {fa fb : EF U D} {env : DL.Env} {u : U} {i j : Int} (ha : fa env u = .ok (.int i) u) (hb : fb env u = .ok (.int j) u) (ok : rgOk (i, j) = true) : fR2 fa fb env u = .ok (rgD i j) u := by
  unfold fR2 fI
  rw [ha]
  show Rs.bind (Rs.bind (fb env u) _) _ = _
  rw [hb]
  exact if_pos ok
theorem dv_range {m : Nat} (hm : m ≤ 900) (u : Src) : fR2 (fC (.int 1)) (fBin addD (fVar 0) (fC (.int 1))) [Slot.val (.int m), .non] u = .ok ((List.range m).map fun i : Nat => PyData.int ((i : Int) + 1)) u := by
  have ok : rgOk (1, (m : Int) + 1) = true := by
    unfold rgOk
    simp
    omega
  have e : rgD 1 ((m : Int) + 1) = (List.range m).map fun i : Nat => PyData.int ((i : Int) + 1) := by
    unfold rgD
    rw [show ((m : Int) + 1 - 1).toNat = m by omega]
    exact List.map_congr_left fun i _ => by rw [Int.add_comm]
  rw [← e]
  exact r2_eval rfl (by simp) ok
theorem dv_test (m i : Nat) (u : Src) : (fB (fBin DL.eqV (fBin modD (fVar 0) (fVar 1)) (fC (.int 0)))) [.val (.int m), .val (.int ((i : Int) + 1))] u = .ok (decide (m % (i + 1) = 0)) u := by
  have h1 := modD_nat m i
  have h2 : decide (((m % (i + 1) : Nat) : Int) = 0) = decide (m % (i + 1) = 0) := by
    generalize m % (i + 1) = q
    exact decide_eq_decide.mpr (by omega)
  simp only [fB_app, fBin_app, fVar_app, fC_app, List.getElem?_cons_zero, List.getElem?_cons_succ, ok_bind, h1, some_lift, eqV_int, h2]
theorem dv_lc {m : Nat} (hm : m ≤ 900) (u : Src) : fLc (fR2 (fC (.int 1)) (fBin addD (fVar 0) (fC (.int 1)))) (gfName 1) (fB (fBin DL.eqV (fBin modD (fVar 0) (fVar 1)) (fC (.int 0)))) (fVar 1) [1] [Slot.val (.int m), .non] u = .ok (.list ((dv m).map fun i : Nat => PyData.int ((i : Int) + 1))) u :=
  lc_eval (h := fun i : Nat => PyData.int ((i : Int) + 1)) (k := fun i : Nat => PyData.int ((i : Int) + 1)) (p := fun i => decide (m % (i + 1) = 0)) (List.range m) (dv_range hm u) (by rw [List.length_range]; exact line_of (Nat.le_trans hm (by decide)))
    (fun i hi => ⟨[.val (.int m), .val (.int ((i : Int) + 1))], rfl, dv_test m i u, fun _ => rfl⟩)
theorem divisors_eq {m : Nat} (hm : m ≤ 900) (u : Src) : m_divisors_told [.d (.int m)] u = .ok (.tuple ((dv m).map fun i : Nat => PyData.int ((i : Int) + 1))) u := by
  have e := dv_lc hm u
  have h1 : b_divisors_told [Slot.val (.int m), .non] u = .rt (.tuple ((dv m).map fun i : Nat => PyData.int ((i : Int) + 1))) u := by
    unfold b_divisors_told
    rw [fRet_app, fCall_app, fPCons_app, e]
    rfl
  unfold m_divisors_told
  rw [fnD_app]
  rw [show startE 2 [DL.Arg.d (.int (m : Int))] = [Slot.val (.int m), .non] from rfl, h1]
theorem lcm_div (a b : Nat) : a / Nat.gcd a b * b = Nat.lcm a b := by
  unfold Nat.lcm
  rw [Nat.mul_comm, ← Nat.mul_div_assoc _ (Nat.gcd_dvd_left a b), Nat.mul_comm]
theorem least_common_eq {a b : Nat} (ha : 0 < a) (ha2 : a ≤ 100000) (hb : b ≤ 100000) (u : Src) : m_least_common [.d (.int a), .d (.int b)] u = .ok (.int (Nat.lcm a b : Nat)) u := by
  have hg : 0 < Nat.gcd a b := Nat.gcd_pos_of_pos_left b ha
  have hgl : Nat.gcd a b ≤ a := Nat.gcd_le_left b ha
  have h1 : fdivD (.int a) (.int (Nat.gcd a b : Nat)) = some (.int ((a / Nat.gcd a b : Nat) : Int)) := by
    rw [fdivD_int (by omega) (by
      have : (Nat.gcd a b).log2 < 17 := by
        by_cases h0 : Nat.gcd a b = 0
        · omega
        · exact (Nat.log2_lt h0).mpr (by omega)
      simp
      omega)]
    rfl
  have h2 : mulD (.int ((a / Nat.gcd a b : Nat) : Int)) (.int b) = some (.int ((Nat.lcm a b : Nat) : Int)) := by
    rw [mulD_int (.inr (.inl (by omega))), ← lcm_div]
    rfl
  have h3 : gcdD [.int a, .int b] = some (.int (Nat.gcd a b : Nat)) := rfl
  simp only [m_least_common, b_least_common, fnD_app, startE, Arg.slot, List.map_cons, List.map_nil, List.length_cons, List.length_nil, List.cons_append, List.nil_append, fRet_app, fBin_app, fCall_app, fPCons_app, fPNil_app, fVar_app, List.getElem?_cons_zero, List.getElem?_cons_succ, ok_bind, some_lift, h3, h1, h2]
  rfl
/-- the least common number of cells -/
def lcW (w : List Int) : Nat := (starts w w.length).foldl (fun a (r : Nat) => Nat.lcm a (cyc w r)) 1
section
variable {w : List Int}
theorem lc_fold (w : List Int) (hd : ∀ r ∈ starts w w.length, cyc w r ∣ 840) : ∀ k, (((starts w w.length).take k).foldl (fun a (r : Nat) => Nat.lcm a (cyc w r)) 1) ∣ 840 := by
  intro k
  have main : ∀ (l : List Nat) (a : Nat), (∀ r ∈ l, cyc w r ∣ 840) → a ∣ 840 → l.foldl (fun a (r : Nat) => Nat.lcm a (cyc w r)) a ∣ 840 := by
    intro l
    induction l with
    | nil => intro a _ h; exact h
    | cons r t ih => intro a h ha; exact ih _ (fun q hq => h q (List.mem_cons_of_mem _ hq)) (Nat.lcm_dvd ha (h r List.mem_cons_self))
  exact main _ 1 (fun r hr => hd r (List.mem_of_mem_take hr)) (Nat.one_dvd _)
theorem Win.cyc840 (W : Win w) (hl : w.length ≤ 8) (r : Int) : cyc w r ∣ 840 := by
  obtain ⟨c1, c2, _, _⟩ := W.cyc_spec r
  have h8 : cyc w r ≤ 8 := by omega
  have key : ∀ n : Fin 9, n.val ≠ 0 → 840 % n.val = 0 := by decide
  exact Nat.dvd_of_mod_eq_zero (key ⟨cyc w r, by omega⟩ (by show cyc w r ≠ 0; omega))
theorem Win.lcW_spec (W : Win w) (hl : w.length ≤ 8) : lcW w ∣ 840 ∧ 0 < lcW w ∧ lcW w ≤ 840 ∧ ∀ r ∈ starts w w.length, cyc w r ∣ lcW w := by
  have h1 := lc_fold w (fun r _ => W.cyc840 hl r) (starts w w.length).length
  rw [List.take_of_length_le (Nat.le_refl _)] at h1
  have h1 : lcW w ∣ 840 := h1
  refine ⟨h1, Nat.pos_of_dvd_of_pos h1 (by decide), Nat.le_of_dvd (by decide) h1, ?_⟩
  have main : ∀ (l : List Nat) (a : Nat), (a ∣ l.foldl (fun a (r : Nat) => Nat.lcm a (cyc w r)) a) ∧ ∀ r ∈ l, cyc w r ∣ l.foldl (fun a (r : Nat) => Nat.lcm a (cyc w r)) a := by
    intro l
    induction l with
    | nil => intro a; exact ⟨Nat.dvd_refl _, fun _ h => (nomatch h)⟩
    | cons r t ih =>
      intro a
      obtain ⟨i1, i2⟩ := ih (Nat.lcm a (cyc w r))
      refine ⟨Nat.dvd_trans (Nat.dvd_lcm_left _ _) i1, fun q hq => ?_⟩
      rcases List.mem_cons.mp hq with e | e
      · subst e; exact Nat.dvd_trans (Nat.dvd_lcm_right _ _) i1
      · exact i2 q e
  exact (main _ 1).2
theorem cells_common_eq (W : Win w) (hl : w.length ≤ 8) (u : Src) : m_cells_common [.d (tI w)] u = .ok (.int (lcW w : Nat)) u := by
  have hrt := rounds_told_eq W (by omega) u
  obtain ⟨env', u', h1, h2⟩ := for_run (fi := fTupI (fCallL 1 m_rounds_told (fACons (fVar 0) fANil))) (fg := gfTup 2 (gfCons (gfName 2) (gfCons (gfName 3) gfNil))) (fb := fAsg 1 (fCallL 2 m_least_common (fACons (fVar 1) (fACons (fCall lenD (fPCons (fVar 2) fPNil)) fANil))))
    (env := [.val (tI w), .val (.int 1), .non, .non]) (u := u) (ds := (starts w w.length).map (roundD w))
    (fun k env u' => u' = u ∧ ∃ x2 x3, env = [.val (tI w), .val (.int ((((starts w w.length).take k).foldl (fun a (r : Nat) => Nat.lcm a (cyc w r)) 1 : Nat) : Int)), x2, x3])
    (by simp [hrt])
    (fun k d env u' hk hi => by
      obtain ⟨rfl, x2, x3, rfl⟩ := hi
      rw [List.getElem?_map] at hk
      cases hr : (starts w w.length)[k]? with
      | none => rw [hr] at hk; cases hk
      | some r =>
        rw [hr] at hk
        cases hk
        have hd := lc_fold w (fun r _ => W.cyc840 hl r) k
        generalize hf : ((starts w w.length).take k).foldl (fun a (r : Nat) => Nat.lcm a (cyc w r)) 1 = a at *
        have ha := Nat.pos_of_dvd_of_pos hd (by decide)
        have ha2 := Nat.le_of_dvd (by decide) hd
        have hc := (W.cyc_spec r).2.1
        have e := least_common_eq (a := a) (b := cyc w r) ha (by omega) (by omega) u'
        have hlc : lenD [tI (cells w r)] = some (.int (cyc w r : Nat)) := by rw [lenD_tI, cells_len]
        refine ⟨[.val (tI w), .val (.int a), .val (tI (cells w r)), .val (.int (drift w r))], _, u', by simp [roundD], ?_, rfl, .val (tI (cells w r)), .val (.int (drift w r)), rfl⟩
        simp [hlc, e, List.take_add_one, hr, hf])
    ⟨rfl, .non, .non, by simp⟩
  obtain ⟨rfl, x2, x3, rfl⟩ := h2
  rw [List.length_map, List.take_of_length_le (Nat.le_refl _)] at h1
  simp [m_cells_common, b_cells_common, h1, lcW]
end
end Mv

namespace Mv
open PySem L2 DL
section
variable {w : List Int}
/-- q times round -/
theorem Win.rounds_on (W : Win w) (r k q : Int) : it w (k + cyc w r * q) r = it w k r + q * (drift w r * w.length) := by
  obtain ⟨c1, c2, _, _⟩ := W.cyc_spec r
  rw [← W.along r, ← W.along r]
  unfold Gf
  rw [places_len, Int.add_mul_emod_self_left, Int.add_mul_ediv_left _ _ (by omega), Int.add_mul]
  omega
def rowL (w : List Int) (M rest : Nat) : List (Int × Int) := (List.range w.length).map fun x : Nat => (it w M x - x, it w rest x)
/-- how far on M times leads a cell of the round of r -/
theorem Win.slope (W : Win w) {M : Nat} {r : Int} (hd : cyc w r ∣ M) (j : Int) : it w M (it w j r % (w.length : Int)) - it w j r % (w.length : Int) = ((M : Int) / (cyc w r : Nat)) * (drift w r * w.length) := by
  obtain ⟨c1, c2, _, _⟩ := W.cyc_spec r
  obtain ⟨q, hq⟩ := hd
  have h1 := W.cell_val r M j
  have h2 := W.rounds_on r j q
  have h3 : (M : Int) / (cyc w r : Nat) = q := by
    rw [hq]
    rw [Int.natCast_mul]
    exact Int.mul_ediv_cancel_left _ (by omega)
  have h4 : (M : Int) = (cyc w r : Nat) * (q : Int) := by rw [hq, Int.natCast_mul]
  rw [h3, ← h1, h4, h2]
  omega
theorem row_round (W : Win w) (hl : w.length ≤ 8) {rest M : Nat} (hrest : rest ≤ 1000) (hM : M ≤ 1000) {r : Nat} (hr : r < w.length) (hdv : cyc w r ∣ M) {des : List (D × D)} {f : Int → Option D} (hd : DicI des f) (hdl : des.length ≤ 20000) (x7 x8 x9 x10 x11 : Slot) (u : Src) :
    ∃ (des' : List (D × D)) (y9 y10 y11 : Slot),
      (fSeq (fPar [7, 8] (fMV (fCallL 2 m_round_places (fACons (fVar 0) (fACons (fVar 5) fANil))) (fMV (fBin mulD (fVar 6) (fVar 3)) fMNil))) (fFor (fEnumT (fVar 5)) (gfTup 2 (gfCons (gfName 9) (gfCons (gfName 10) gfNil))) (fSeq (fAsg 11 (fCallL 4 m_place_along (fACons (fVar 7) (fACons (fCall lenD (fPCons (fVar 5) fPNil)) (fACons (fVar 8) (fACons (fBin addD (fVar 9) (fVar 1)) fANil)))))) (fPut 4 (fVar 10) (fTup (fACons (fBin mulD (fBin fdivD (fVar 2) (fCall lenD (fPCons (fVar 5) fPNil))) (fVar 8)) (fACons (fBin subD (fBin addD (fVar 11) (fVar 10)) (fBin ixQ (fVar 7) (fVar 9))) fANil)))))))
        [.val (tI w), .val (.int rest), .val (.int M), .val (.int w.length), .own (.dict des), .val (tI (cells w r)), .val (.int (drift w r)), x7, x8, x9, x10, x11] u =
      .nx [.val (tI w), .val (.int rest), .val (.int M), .val (.int w.length), .own (.dict des'), .val (tI (cells w r)), .val (.int (drift w r)), .val (lI (places w r)), .val (.int (drift w r * w.length)), y9, y10, y11] u ∧
      des'.length ≤ des.length + cyc w r ∧ DicI des' fun y => if y ∈ cells w r then some (LD (it w M y - y, it w rest y)) else f y := by
  have hn := W.n0
  obtain ⟨c1, c2, _, _⟩ := W.cyc_spec r
  have hrp := round_places_eq W (by omega) hr u
  have hmn : mulD (.int (drift w r)) (.int w.length) = some (.int (drift w r * w.length)) := mulD_int (.inr (.inl (by omega)))
  have hlc : lenD [tI (cells w r)] = some (.int (cyc w r : Nat)) := by rw [lenD_tI, cells_len]
  obtain ⟨sl, hsl⟩ : ∃ sl : Int, sl = ((M : Int) / (cyc w r : Nat)) * (drift w r * w.length) := ⟨_, rfl⟩
  obtain ⟨st, hst⟩ : ∃ st : Int, st = drift w r * w.length := ⟨_, rfl⟩
  have hfd : fdivD (.int M) (.int (cyc w r : Nat)) = some (.int ((M : Int) / (cyc w r : Nat))) := fdivD_int (by omega) (by
    have : (cyc w r).log2 < 9000 := by
      by_cases h0 : cyc w r = 0
      · rw [h0]; decide
      · exact Nat.lt_of_le_of_lt (Nat.log2_le_self _) (by omega)
    simpa using this)
  have hq0 := div_abs (k := (M : Int)) (m := cyc w r) (by omega)
  have hms : mulD (.int ((M : Int) / (cyc w r : Nat))) (.int st) = some (.int sl) := by
    rw [hsl, hst]
    exact mulD_int (.inl (by omega))
  rw [← hst] at hmn ⊢
  obtain ⟨env', u', h1, h2⟩ := for_run (fi := fEnumT (fVar 5)) (fg := gfTup 2 (gfCons (gfName 9) (gfCons (gfName 10) gfNil))) (fb := (fSeq (fAsg 11 (fCallL 4 m_place_along (fACons (fVar 7) (fACons (fCall lenD (fPCons (fVar 5) fPNil)) (fACons (fVar 8) (fACons (fBin addD (fVar 9) (fVar 1)) fANil)))))) (fPut 4 (fVar 10) (fTup (fACons (fBin mulD (fBin fdivD (fVar 2) (fCall lenD (fPCons (fVar 5) fPNil))) (fVar 8)) (fACons (fBin subD (fBin addD (fVar 11) (fVar 10)) (fBin ixQ (fVar 7) (fVar 9))) fANil))))))
    (env := [.val (tI w), .val (.int rest), .val (.int M), .val (.int w.length), .own (.dict des), .val (tI (cells w r)), .val (.int (drift w r)), .val (lI (places w r)), .val (.int st), x9, x10, x11]) (u := u) (ds := enumD ((cells w r).map PyData.int))
    (fun k env u' => u' = u ∧ ∃ (des' : List (D × D)) (y9 y10 y11 : Slot), env = [.val (tI w), .val (.int rest), .val (.int M), .val (.int w.length), .own (.dict des'), .val (tI (cells w r)), .val (.int (drift w r)), .val (lI (places w r)), .val (.int st), y9, y10, y11] ∧ des'.length ≤ des.length + k ∧
      DicI des' fun y => if y ∈ (cells w r).take k then some (LD (it w M y - y, it w rest y)) else f y)
    (by simp [tI])
    (fun k d env u' hk hi => by
      obtain ⟨rfl, des', y9, y10, y11, rfl, hlen, hd'⟩ := hi
      obtain ⟨hk', rfl⟩ := enum_ints _ hk
      rw [cells_len] at hk'
      obtain ⟨v, hv⟩ : ∃ v, v = (cells w r).getD k 0 := ⟨_, rfl⟩
      rw [← hv]
      have hcv : v = it w k r % (w.length : Int) := by rw [hv, cells_getD w r hk']
      have hq1 := div_abs (k := (k : Int) + rest) (m := cyc w r) (by omega)
      have ha := place_along_eq (P := places w r) (by rw [places_len]; omega) (by rw [places_len]; omega) (step := drift w r * w.length) (k := (k : Int) + rest) (by rw [places_len]; exact .inl (by omega)) u'
      rw [places_len, W.along, ← hst] at ha
      have hq : ixQ (lI (places w r)) (.int k) = some (.int (it w k r)) := by
        refine ixQ_list (by omega) ?_
        rw [get_tI (by rw [places_len]; simpa using hk')]
        exact congrArg (fun z => some (PyData.int z)) (getD_map_range hk')
      have hs := hd'.set v (LD (it w M v - v, it w rest v)) (by omega)
      have hval := W.cell_val r rest k
      rw [← hcv] at hval
      have hslo := W.slope (M := M) (r := r) hdv k
      rw [← hcv, ← hsl] at hslo
      have hpl := put_len des' (.int v) (LD (it w M v - v, it w rest v))
      refine ⟨[.val (tI w), .val (.int rest), .val (.int M), .val (.int w.length), .own (.dict des'), .val (tI (cells w r)), .val (.int (drift w r)), .val (lI (places w r)), .val (.int st), .val (.int k), .val (.int v), y11], _, u', by simp, ?_, rfl, putD des' (.int v) (LD (it w M v - v, it w rest v)), .val (.int k), .val (.int v), .val (.int (it w ((k : Int) + rest) r)), rfl, by omega, ?_⟩
      · rw [hslo] at hs ⊢
        simp only [LD] at hs ⊢
        simp [hlc, hmn, ha, hq, hval, hfd, hms, hs]
      · have hp := hd'.put v (LD (it w M v - v, it w rest v))
        refine ⟨hp.keys, fun y => ?_⟩
        rw [hp.get y, List.take_add_one, cells_get w r hk', ← hcv]
        by_cases e : v = y
        · subst e
          simp
        · have e' : ¬ y = v := fun z => e z.symm
          by_cases a : y ∈ (cells w r).take k <;> simp [e, e', a])
    ⟨rfl, des, x9, x10, x11, rfl, by omega, by simpa using hd⟩
  obtain ⟨rfl, des', y9, y10, y11, rfl, hlen, hd'⟩ := h2
  have hel : (enumD ((cells w r).map PyData.int)).length = cyc w r := by simp [enumD, cells_len]
  refine ⟨des', y9, y10, y11, ?_, by omega, ?_⟩
  · simp [hrp, h1, hmn]
  · rw [hel, List.take_of_length_le (by rw [cells_len]; omega)] at hd'
    exact hd'
theorem row_lines_eq (W : Win w) (hl : w.length ≤ 8) {rest M : Nat} (hrest : rest ≤ 1000) (hM : M ≤ 1000) (hdv : ∀ r ∈ starts w w.length, cyc w r ∣ M) (u : Src) : m_row_lines [.d (tI w), .d (.int rest), .d (.int M)] u = .ok (rowD (rowL w M rest)) u := by
  have hn := W.n0
  have hrt := rounds_told_eq W (by omega) u
  have hsl := starts_len w w.length
  obtain ⟨env', u', h1, h2⟩ := for_run (fi := fTupI (fCallL 1 m_rounds_told (fACons (fVar 0) fANil))) (fg := gfTup 2 (gfCons (gfName 5) (gfCons (gfName 6) gfNil))) (fb := (fSeq (fPar [7, 8] (fMV (fCallL 2 m_round_places (fACons (fVar 0) (fACons (fVar 5) fANil))) (fMV (fBin mulD (fVar 6) (fVar 3)) fMNil))) (fFor (fEnumT (fVar 5)) (gfTup 2 (gfCons (gfName 9) (gfCons (gfName 10) gfNil))) (fSeq (fAsg 11 (fCallL 4 m_place_along (fACons (fVar 7) (fACons (fCall lenD (fPCons (fVar 5) fPNil)) (fACons (fVar 8) (fACons (fBin addD (fVar 9) (fVar 1)) fANil)))))) (fPut 4 (fVar 10) (fTup (fACons (fBin mulD (fBin fdivD (fVar 2) (fCall lenD (fPCons (fVar 5) fPNil))) (fVar 8)) (fACons (fBin subD (fBin addD (fVar 11) (fVar 10)) (fBin ixQ (fVar 7) (fVar 9))) fANil))))))))
    (env := [.val (tI w), .val (.int rest), .val (.int M), .val (.int w.length), .own (.dict []), .non, .non, .non, .non, .non, .non, .non]) (u := u) (ds := (starts w w.length).map (roundD w))
    (fun k env u' => u' = u ∧ ∃ (des : List (D × D)) (y5 y6 y7 y8 y9 y10 y11 : Slot), env = [.val (tI w), .val (.int rest), .val (.int M), .val (.int w.length), .own (.dict des), y5, y6, y7, y8, y9, y10, y11] ∧ des.length ≤ k * w.length ∧
      DicI des fun y => if y ∈ ((starts w w.length).take k).flatMap (fun r : Nat => cells w r) then some (LD (it w M y - y, it w rest y)) else none)
    (by simp [hrt])
    (fun k d env u' hk hi => by
      obtain ⟨rfl, des, y5, y6, y7, y8, y9, y10, y11, rfl, hlen, hd⟩ := hi
      rw [List.getElem?_map] at hk
      cases hr : (starts w w.length)[k]? with
      | none => rw [hr] at hk; cases hk
      | some r =>
        rw [hr] at hk
        cases hk
        have hrm := List.mem_of_getElem? hr
        have hrl := starts_lt w w.length r hrm
        have hkl := (List.getElem?_eq_some_iff.mp hr).1
        have hkw : k * w.length ≤ 100 * 100 := Nat.mul_le_mul (by omega) (by omega)
        obtain ⟨des', z9, z10, z11, e1, e2, e3⟩ := row_round W hl hrest hM hrl (hdv r hrm) hd (by omega) y7 y8 y9 y10 y11 u'
        have c2 := (W.cyc_spec r).2.1
        refine ⟨[.val (tI w), .val (.int rest), .val (.int M), .val (.int w.length), .own (.dict des), .val (tI (cells w r)), .val (.int (drift w r)), y7, y8, y9, y10, y11], _, u', by simp [roundD], e1, rfl, des', _, _, _, _, z9, z10, z11, rfl, ?_, ?_⟩
        · rw [Nat.add_mul]; omega
        · refine ⟨e3.keys, fun y => ?_⟩
          rw [e3.get y, List.take_add_one, hr, List.flatMap_append]
          by_cases a : y ∈ cells w r <;> by_cases b : y ∈ ((starts w w.length).take k).flatMap (fun r : Nat => cells w r) <;> simp [a, b])
    ⟨rfl, [], .non, .non, .non, .non, .non, .non, .non, rfl, by simp, by simpa using DicI.nil⟩
  obtain ⟨rfl, des, y5, y6, y7, y8, y9, y10, y11, rfl, _, hd⟩ := h2
  rw [List.length_map, List.take_of_length_le (Nat.le_refl _)] at hd
  have hlc := lc_all (h := fun i : Nat => PyData.int i) (k := fun x : Nat => LD (it w M x - x, it w rest x)) (fi := fR1 (fVar 3)) (fg := gfName 10) (fe := fBin dgetD (fVarP 4) (fVar 10)) (vs := [10])
    (env := [.val (tI w), .val (.int rest), .val (.int M), .val (.int w.length), .own (.dict des), y5, y6, y7, y8, y9, y10, y11]) (u := u') (List.range w.length) (r1_eval rfl (by omega)) (by rw [List.length_range]; exact line_of (by omega))
    (fun x hx => ⟨[.val (tI w), .val (.int rest), .val (.int M), .val (.int w.length), .own (.dict des), y5, y6, y7, y8, y9, .val (.int x), y11], rfl, by
      have hg := hd.dget (x : Int)
      rw [if_pos (W.covered w.length (Nat.le_refl _) x (List.mem_range.mp hx))] at hg
      simp [hg]⟩)
  have hrow : rowD (rowL w M rest) = .tuple ((List.range w.length).map fun x : Nat => LD (it w M x - x, it w rest x)) := by
    unfold rowD rowL
    rw [List.map_map]
    rfl
  rw [hrow]
  simp [m_row_lines, b_row_lines, h1, hlc]
end
end Mv

namespace DL
open PySem L2
theorem forD_ret {U : Type} {fg : D → Env → Option Env} {fb : SF U} (I : Env → U → Prop) (x : D) (xu : U) : ∀ (ds : List D) (m : Nat) (env : Env) (u : U), m < ds.length →
    (∀ i d env u, i < m → ds[i]? = some d → I env u → ∃ e1 env' u', fg d env = some e1 ∧ fb e1 u = .nx env' u' ∧ I env' u') →
    (∀ d env u, ds[m]? = some d → I env u → ∃ e1, fg d env = some e1 ∧ fb e1 u = .rt x xu) → I env u → forD fg fb ds env u = .rt x xu
  | [], m, _, _, h, _, _, _ => absurd h (Nat.not_lt_zero _)
  | d :: ds, 0, env, u, _, _, hr, h => by
    obtain ⟨e1, h1, h2⟩ := hr d env u rfl h
    unfold forD
    rw [h1]
    simp only [h2]
  | d :: ds, m + 1, env, u, hm, hs, hr, h => by
    obtain ⟨e1, env', u', h1, h2, h3⟩ := hs 0 d env u (Nat.succ_pos _) rfl h
    have ih := forD_ret I x xu ds m env' u' (by simpa using hm) (fun i d env u hi hd h => hs (i + 1) d env u (by omega) (by simpa using hd) h) (fun d env u hd h => hr d env u (by simpa using hd) h) h3
    unfold forD
    rw [h1]
    simp only [h2]
    exact ih
theorem callL_ok {n : Nat} {m : MF} {fas : EF Src (List DL.Arg)} {env : Env} {u u1 u2 : Src} {as : List DL.Arg} {d : D} (ha : fas env u = .ok as u1) (hn : as.length = n) (hm : m as u1 = .ok d u2) : fCallL n m fas env u = .ok d u2 := by
  rw [fCallL_app, ha, ok_bind, if_pos hn, hm, noEx_ok]
theorem asg_ok {U : Type} {i : Nat} {fe : EF U D} {env : Env} {u u1 : U} {d : D} (h : fe env u = .ok d u1) : fAsg i fe env u = .nx (env.set i (.val d)) u1 := by
  rw [fAsg_app, h, ok_after]
theorem seq_nx {U : Type} {f g : SF U} {env env1 : Env} {u u1 : U} (h : f env u = .nx env1 u1) : fSeq f g env u = g env1 u1 := by
  rw [fSeq_app, h]
theorem seq_rt {U : Type} {f g : SF U} {env : Env} {u u1 : U} {d : D} (h : f env u = .rt d u1) : fSeq f g env u = .rt d u1 := by
  rw [fSeq_app, h]
theorem fnD_rt {N : Nat} {b : SF Src} {as : List DL.Arg} {u u1 : Src} {d : D} (h : b (startE N as) u = .rt d u1) : fnD N b as u = .ok d u1 := by
  rw [fnD_app, h]
theorem tupI_ok {U : Type} {fe : EF U D} {env : Env} {u u1 : U} {ds : List D} (h : fe env u = .ok (.tuple ds) u1) : fTupI fe env u = .ok ds u1 := by
  rw [fTupI_app, h, ok_bind]
end DL
namespace Mv
open PySem L2 DL
theorem LD_inj {p q : Int × Int} : PyData.eqv (LD p) (LD q) = decide (p = q) := by
  show (p.1 == q.1 && (p.2 == q.2 && true)) = _
  rw [Bool.eq_iff_iff]
  simp [Prod.ext_iff]
theorem eqvAll_LD : ∀ l l' : List (Int × Int), PyData.eqvAll (l.map LD) (l'.map LD) = decide (l = l')
  | [], [] => rfl
  | [], _ :: _ => rfl
  | _ :: _, [] => rfl
  | p :: l, q :: l' => by
    show (PyData.eqv (LD p) (LD q) && PyData.eqvAll (l.map LD) (l'.map LD)) = _
    rw [LD_inj, eqvAll_LD l l', Bool.eq_iff_iff]
    simp
theorem lay_LD : ∀ l : List (Int × Int), PyData.canLayAll0 (l.map LD) = true ∧ PyData.depthAll (l.map LD) ≤ 1 ∧ PyData.hasDictAll (l.map LD) = false
  | [] => ⟨rfl, Nat.zero_le _, rfl⟩
  | p :: l => by
    obtain ⟨h1, h2, h3⟩ := lay_LD l
    refine ⟨?_, ?_, ?_⟩
    · show (PyData.canLay0 (LD p) && PyData.canLayAll0 (l.map LD)) = true
      rw [h1]
      rfl
    · show max (PyData.depth (LD p)) (PyData.depthAll (l.map LD)) ≤ 1
      have : PyData.depth (LD p) = 1 := rfl
      omega
    · show (PyData.hasDict (LD p) || PyData.hasDictAll (l.map LD)) = false
      rw [h3]
      rfl
theorem eqV_lines (l l' : List (Int × Int)) : DL.eqV (.list (l.map LD)) (.list (l'.map LD)) = some (.bool (decide (l = l'))) := by
  have sh : ∀ l : List (Int × Int), SeqAt.shaped (.list (l.map LD)) = true ∧ PyData.hasDict (.list (l.map LD)) = false := fun l => by
    obtain ⟨h1, h2, h3⟩ := lay_LD l
    refine ⟨?_, h3⟩
    unfold SeqAt.shaped
    rw [show PyData.canLay0 (.list (l.map LD)) = true from h1]
    have : PyData.depth (.list (l.map LD)) ≤ 64 := by
      show PyData.depthAll (l.map LD) + 1 ≤ 64
      omega
    simp [this]
  have e : DL.eqD (.list (l.map LD)) (.list (l'.map LD)) = some (PyData.eqv (.list (l.map LD)) (.list (l'.map LD))) := by
    show (if _ then _ else _) = _
    rw [if_pos ⟨(sh l).1, (sh l').1, (sh l).2, (sh l').2⟩]
  unfold DL.eqV
  rw [e]
  show some (PyData.bool (PyData.eqvAll (l.map LD) (l'.map LD))) = _
  rw [eqvAll_LD]
section
variable {w : List Int}
def wl (w : List Int) (M i : Nat) : List (Int × Int) := (rowL w M i).map (wholeL M i)
def good (w : List Int) (M b : Nat) : Bool := (List.range M).all fun i => decide (wl w M i = wl w M (i % b))
def lrow (w : List Int) (M b i : Nat) : List (Int × Int) := (rowL w M i).map fun p => (p.1 * b / M, p.2)
theorem rowL_len (w : List Int) (M i : Nat) : (rowL w M i).length = w.length := by simp [rowL]
theorem least_rows_eq (w : List Int) (hl : w.length ≤ 8) {M : Nat} (hM : 0 < M) (hM2 : M ≤ 900) : ∃ b : Nat, 0 < b ∧ b ≤ M ∧ M % b = 0 ∧ good w M b = true ∧
    ∀ u : Src, m_least_rows [.d (.list ((List.range M).map fun i => rowD (rowL w M i)))] u = .ok (.tuple [.int b, .tuple ((List.range b).map fun i => rowD (lrow w M b i))]) u := by
  -- the first divisor that does
  have hex : ∃ m, m < (dv M).length ∧ (∀ i < m, ∀ k, (dv M)[i]? = some k → good w M (k + 1) = false) ∧ ∃ k, (dv M)[m]? = some k ∧ good w M (k + 1) = true := by
    have hmem : M - 1 ∈ dv M := by
      unfold dv
      rw [List.mem_filter, List.mem_range]
      refine ⟨by omega, ?_⟩
      rw [Nat.sub_add_cancel hM, Nat.mod_self]
      rfl
    have hgood : good w M (M - 1 + 1) = true := by
      unfold good
      rw [List.all_eq_true]
      intro i hi
      rw [List.mem_range] at hi
      rw [Nat.sub_add_cancel hM, Nat.mod_eq_of_lt hi]
      simp
    have : ∀ l : List Nat, (∃ k ∈ l, good w M (k + 1) = true) → ∃ m, m < l.length ∧ (∀ i < m, ∀ k, l[i]? = some k → good w M (k + 1) = false) ∧ ∃ k, l[m]? = some k ∧ good w M (k + 1) = true := by
      intro l
      induction l with
      | nil => rintro ⟨k, h, _⟩; cases h
      | cons a l ih =>
        rintro ⟨k, hk, hg⟩
        by_cases ha : good w M (a + 1) = true
        · exact ⟨0, by simp, fun i hi => absurd hi (Nat.not_lt_zero _), a, rfl, ha⟩
        · rcases List.mem_cons.mp hk with e | e
          · subst e; exact absurd hg ha
          · obtain ⟨m, h1, h2, h3⟩ := ih ⟨k, e, hg⟩
            refine ⟨m + 1, by simpa using h1, fun i hi k hk => ?_, by simpa using h3⟩
            cases i with
            | zero =>
              cases hk
              simpa using ha
            | succ i => exact h2 i (by omega) k (by simpa using hk)
    exact this _ ⟨M - 1, hmem, hgood⟩
  obtain ⟨m, hm, hno, k, hk, hg⟩ := hex
  have hkm := List.mem_of_getElem? hk
  unfold dv at hkm
  rw [List.mem_filter, List.mem_range] at hkm
  have hmod : M % (k + 1) = 0 := of_decide_eq_true hkm.2
  refine ⟨k + 1, by omega, by omega, hmod, hg, fun u => ?_⟩
  obtain ⟨R, hR⟩ : ∃ R : D, R = .list ((List.range M).map fun i => rowD (rowL w M i)) := ⟨_, rfl⟩
  have hlenR : lenD [R] = some (.int M) := by rw [hR, lenD_l]; simp
  have hwh := lc_all (h := fun i : Nat => PyData.tuple [.int i, rowD (rowL w M i)]) (k := fun i : Nat => PyData.list ((wl w M i).map LD)) (fi := fEnum (fVar 0)) (fg := gfTup 2 (gfCons (gfName 5) (gfCons (gfName 4) gfNil))) (fe := (fCallL 3 m_lines_whole (fACons (fVar 4) (fACons (fVar 1) (fACons (fVar 5) fANil))))) (vs := [5, 4])
    (env := [.val R, .val (.int M), .non, .non, .non, .non, .non]) (u := u) (List.range M)
    (by
      have : enumD ((List.range M).map fun i => rowD (rowL w M i)) = (List.range M).map fun i : Nat => PyData.tuple [.int i, rowD (rowL w M i)] := by
        unfold enumD
        refine List.ext_getElem? fun i => ?_
        rw [List.getElem?_mapIdx, List.getElem?_map, List.getElem?_map]
        by_cases hi : i < M
        · rw [List.getElem?_range hi]; rfl
        · rw [List.getElem?_eq_none (by simpa using hi)]; rfl
      rw [hR]
      simp [this])
    (by rw [List.length_range]; exact line_of (by omega))
    (fun i hi => ⟨[.val R, .val (.int M), .non, .non, .val (rowD (rowL w M i)), .val (.int i), .non], by simp [wipeE], by
      have e := lines_whole_eq (rowL w M i) (by rw [rowL_len]; omega) (m := M) (rest := i) (by omega) (by have := List.mem_range.mp hi; omega) u
      have e2 : (rowL w M i).map (fun p => LD (wholeL M i p)) = (wl w M i).map LD := by unfold wl; rw [List.map_map]; rfl
      rw [e2] at e
      simp [e]⟩)
  obtain ⟨WW, hWW⟩ : ∃ WW : D, WW = .list ((List.range M).map fun i : Nat => PyData.list ((wl w M i).map LD)) := ⟨_, rfl⟩
  rw [← hWW] at hwh
  have hget : ∀ i : Nat, i < M → ixQ WW (.int i) = some (.list ((wl w M i).map LD)) := fun i hi => by
    rw [hWW]
    refine ixQ_list (by omega) ?_
    rw [List.getElem?_map, Int.toNat_natCast, List.getElem?_range hi]
    rfl
  -- the test at the divisor k + 1
  have test : ∀ (k : Nat) (x4 x5 x6 : Slot), (fB (fCall allD (fPCons (fLc (fR1 (fVar 1)) (gfName 5) fYes (fBin DL.eqV (fBin ixQ (fVar 2) (fVar 5)) (fBin ixQ (fVar 2) (fBin modD (fVar 5) (fVar 3)))) [5]) fPNil))) [.val R, .val (.int M), .val WW, .val (.int ((k : Int) + 1)), x4, x5, x6] u = .ok (good w M (k + 1)) u := fun k x4 x5 x6 => by
    have e := lc_all (h := fun i : Nat => PyData.int i) (k := fun i : Nat => PyData.bool (decide (wl w M i = wl w M (i % (k + 1))))) (fi := fR1 (fVar 1)) (fg := gfName 5) (fe := (fBin DL.eqV (fBin ixQ (fVar 2) (fVar 5)) (fBin ixQ (fVar 2) (fBin modD (fVar 5) (fVar 3))))) (vs := [5])
      (env := [.val R, .val (.int M), .val WW, .val (.int ((k : Int) + 1)), x4, x5, x6]) (u := u) (List.range M) (r1_eval rfl (by omega)) (by rw [List.length_range]; exact line_of (by omega))
      (fun i hi => ⟨[.val R, .val (.int M), .val WW, .val (.int ((k : Int) + 1)), x4, .val (.int i), x6], rfl, by
        have hi' := List.mem_range.mp hi
        have h1 := hget i hi'
        have h2 := hget (i % (k + 1)) (Nat.lt_of_le_of_lt (Nat.mod_le _ _) hi')
        have h3 := modD_nat i k
        have h4 := eqV_lines (wl w M i) (wl w M (i % (k + 1)))
        simp only [fBin_app, fVar_app, List.getElem?_cons_zero, List.getElem?_cons_succ, ok_bind, h1, h2, h3, h4, some_lift]⟩)
    have ha : allD [.list ((List.range M).map fun i : Nat => PyData.bool (decide (wl w M i = wl w M (i % (k + 1)))))] = some (.bool (good w M (k + 1))) := by
      show (boolsD _).map _ = _
      rw [show ((List.range M).map fun i : Nat => PyData.bool (decide (wl w M i = wl w M (i % (k + 1))))) = ((List.range M).map fun i : Nat => decide (wl w M i = wl w M (i % (k + 1)))).map PyData.bool by rw [List.map_map]; rfl, boolsD_map]
      unfold good
      simp [List.all_map, Function.comp_def]
    rw [fB_app, fCall_app, fPCons_app, e]
    show Rs.bind (liftO (allD [.list _]) u) _ = _
    rw [ha]
    rfl
  have hdiv := divisors_eq (m := M) (by omega) u
  -- what is returned
  have hcut : sliceD R none (some ((k : Int) + 1)) = some (.list ((List.range (k + 1)).map fun i => rowD (rowL w M i))) := by
    rw [hR]
    show some (PyData.list (cutD _ none (some ((k : Int) + 1)))) = _
    unfold cutD
    rw [HT.sIx_none, show ((k : Int) + 1) = ((k + 1 : Nat) : Int) by omega, HT.sIx_nat, List.length_map, List.length_range, Nat.min_eq_left (by omega), List.drop_zero, Nat.sub_zero, ← List.map_take, List.take_range, Nat.min_eq_left (by omega)]
  have hinner : ∀ (i : Nat) (x4 x5 x6 : Slot), fLc (fTupI (fVar 4)) (gfName 6) fYes (fTup (fACons (fBin fdivD (fBin mulD (fBin ixQ (fVar 6) (fC (.int 0))) (fVar 3)) (fVar 1)) (fACons (fBin ixQ (fVar 6) (fC (.int 1))) fANil))) [6]
      [.val R, .val (.int M), .val WW, .val (.int ((k : Int) + 1)), .val (rowD (rowL w M i)), x5, x6] u = .ok (.list ((lrow w M (k + 1) i).map LD)) u := fun i x4 x5 x6 => by
    have e := lc_all (h := LD) (k := fun p : Int × Int => LD (p.1 * ((k + 1 : Nat) : Int) / (M : Int), p.2)) (fi := fTupI (fVar 4)) (fg := gfName 6) (fe := (fTup (fACons (fBin fdivD (fBin mulD (fBin ixQ (fVar 6) (fC (.int 0))) (fVar 3)) (fVar 1)) (fACons (fBin ixQ (fVar 6) (fC (.int 1))) fANil)))) (vs := [6])
      (env := [.val R, .val (.int M), .val WW, .val (.int ((k : Int) + 1)), .val (rowD (rowL w M i)), x5, x6]) (u := u) (rowL w M i) rfl (by rw [rowL_len]; exact line_of (by omega))
      (fun p hp => ⟨[.val R, .val (.int M), .val WW, .val (.int ((k : Int) + 1)), .val (rowD (rowL w M i)), x5, .val (LD p)], rfl, by
        have h1 : mulD (.int p.1) (.int ((k : Int) + 1)) = some (.int (p.1 * ((k : Int) + 1))) := mulD_int (.inr (.inl (by omega)))
        have h2 : fdivD (.int (p.1 * ((k : Int) + 1))) (.int M) = some (.int (p.1 * ((k : Int) + 1) / M)) := fdivD_int (by omega) (by
          have : M.log2 < 9000 := Nat.lt_of_le_of_lt (Nat.log2_le_self _) (by omega)
          simpa using this)
        have h3 : ((k + 1 : Nat) : Int) = (k : Int) + 1 := by omega
        simp only [fTup_app, fACons_app, fANil_app, fBin_app, fVar_app, fC_app, List.getElem?_cons_zero, List.getElem?_cons_succ, ok_bind, ix0_LD, ix1_LD, some_lift, h1, h2, h3]
        rfl⟩)
    rw [e]
    unfold lrow
    rw [List.map_map]
    rfl
  have houter : ∀ (x4 x5 x6 : Slot), fLc (fSeqI (fSlice (fVar 0) fNoPart (fPart (fVar 3)))) (gfName 4) fYes (fCall tupleD (fPCons (fLc (fTupI (fVar 4)) (gfName 6) fYes (fTup (fACons (fBin fdivD (fBin mulD (fBin ixQ (fVar 6) (fC (.int 0))) (fVar 3)) (fVar 1)) (fACons (fBin ixQ (fVar 6) (fC (.int 1))) fANil))) [6]) fPNil)) [4]
      [.val R, .val (.int M), .val WW, .val (.int ((k : Int) + 1)), x4, x5, x6] u = .ok (.list ((List.range (k + 1)).map fun i => rowD (lrow w M (k + 1) i))) u := fun x4 x5 x6 =>
    lc_all (h := fun i : Nat => rowD (rowL w M i)) (k := fun i : Nat => rowD (lrow w M (k + 1) i)) (List.range (k + 1))
      (by
        unfold fSeqI fSlice fNoPart fPart
        show Rs.bind (Rs.bind (fVar 0 _ u) _) _ = _
        rw [show fVar 0 [Slot.val R, .val (.int M), .val WW, .val (.int ((k : Int) + 1)), x4, x5, x6] u = .ok R u from rfl]
        show Rs.bind (liftO (sliceD R none (some ((k : Int) + 1))) u) _ = _
        rw [hcut]
        rfl)
      (by rw [List.length_range]; exact line_of (by omega))
      (fun i hi => ⟨[.val R, .val (.int M), .val WW, .val (.int ((k : Int) + 1)), .val (rowD (rowL w M i)), x5, x6], rfl, by
        rw [fCall_app, fPCons_app, hinner i x4 x5 x6]
        rfl⟩)
  have hfor : fFor (fTupI (fCallL 1 m_divisors_told (fACons (fVar 1) fANil))) (gfName 3) (fIfS (fB (fCall allD (fPCons (fLc (fR1 (fVar 1)) (gfName 5) fYes (fBin DL.eqV (fBin ixQ (fVar 2) (fVar 5)) (fBin ixQ (fVar 2) (fBin modD (fVar 5) (fVar 3)))) [5]) fPNil))) (fRet (fTup (fACons (fVar 3) (fACons (fCall tupleD (fPCons (fLc (fSeqI (fSlice (fVar 0) fNoPart (fPart (fVar 3)))) (gfName 4) fYes (fCall tupleD (fPCons (fLc (fTupI (fVar 4)) (gfName 6) fYes (fTup (fACons (fBin fdivD (fBin mulD (fBin ixQ (fVar 6) (fC (.int 0))) (fVar 3)) (fVar 1)) (fACons (fBin ixQ (fVar 6) (fC (.int 1))) fANil))) [6]) fPNil)) [4]) fPNil)) fANil)))) fNext)
      [.val R, .val (.int M), .val WW, .non, .non, .non, .non] u = .rt (.tuple [.int ((k : Int) + 1), .tuple ((List.range (k + 1)).map fun i => rowD (lrow w M (k + 1) i))]) u := by
    unfold fFor
    have hi : fTupI (fCallL 1 m_divisors_told (fACons (fVar 1) fANil)) [Slot.val R, .val (.int M), .val WW, .non, .non, .non, .non] u = .ok ((dv M).map fun i : Nat => PyData.int ((i : Int) + 1)) u := by
      have hc : fCallL 1 m_divisors_told (fACons (fVar 1) fANil) [Slot.val R, .val (.int M), .val WW, .non, .non, .non, .non] u = .ok (.tuple ((dv M).map fun i : Nat => PyData.int ((i : Int) + 1))) u := callL_ok (as := [.d (.int M)]) rfl rfl hdiv
      exact tupI_ok hc
    rw [hi, ok_after]
    refine forD_ret (fun env u' => u' = u ∧ ∃ x3 : Slot, env = [.val R, .val (.int M), .val WW, x3, .non, .non, .non]) _ _ _ m _ _ (by simpa using hm) ?_ ?_ ⟨rfl, .non, rfl⟩
    · rintro i d env u' him hd ⟨rfl, x3, rfl⟩
      rw [List.getElem?_map] at hd
      cases hq : (dv M)[i]? with
      | none => rw [hq] at hd; cases hd
      | some q =>
        rw [hq] at hd
        cases hd
        refine ⟨[.val R, .val (.int M), .val WW, .val (.int ((q : Int) + 1)), .non, .non, .non], _, u', rfl, ?_, rfl, .val (.int ((q : Int) + 1)), rfl⟩
        rw [fIfS_app, test q, hno i him q hq]
        rfl
    · rintro d env u' hd ⟨rfl, x3, rfl⟩
      rw [List.getElem?_map, hk] at hd
      cases hd
      refine ⟨[.val R, .val (.int M), .val WW, .val (.int ((k : Int) + 1)), .non, .non, .non], rfl, ?_⟩
      rw [fIfS_app, test k, hg]
      simp only [ok_after, if_true, fRet_app, fTup_app, fACons_app, fANil_app, fCall_app, fPCons_app, fPNil_app, fVar_app, List.getElem?_cons_zero, List.getElem?_cons_succ, houter, ok_bind]
      rfl
  rw [← hR, show ((k + 1 : Nat) : Int) = (k : Int) + 1 by omega]
  have s1 : fAsg 1 (fCall lenD (fPCons (fVar 0) fPNil)) [Slot.val R, .non, .non, .non, .non, .non, .non] u = .nx [.val R, .val (.int M), .non, .non, .non, .non, .non] u := asg_ok (by
    rw [fCall_app, fPCons_app, show fVar 0 [Slot.val R, .non, .non, .non, .non, .non, .non] u = .ok R u from rfl, ok_bind, fPNil_app, ok_bind, ok_bind, hlenR, some_lift])
  have s2 := asg_ok (i := 2) hwh
  exact fnD_rt ((seq_nx s1).trans ((seq_nx s2).trans (seq_rt hfor)))
end
end Mv

namespace DL
open PySem L2
theorem argsOne {fe : EF Src D} {env : Env} {u : Src} {d : D} (h : fe env u = .ok d u) : fACons fe fANil env u = .ok [.d d] u := by
  rw [fACons_app, h, ok_bind, fANil_app, ok_bind]
theorem args3 {fa fb fc : EF Src D} {env : Env} {u : Src} {a b c : D} (ha : fa env u = .ok a u) (hb : fb env u = .ok b u) (hc : fc env u = .ok c u) : fACons fa (fACons fb (fACons fc fANil)) env u = .ok [.d a, .d b, .d c] u := by
  rw [fACons_app, ha, ok_bind, fACons_app, hb, ok_bind, argsOne hc, ok_bind, ok_bind]
theorem unp_ok {U : Type} {fe : EF U D} {fg : D → Env → Option Env} {env env1 : Env} {u u1 : U} {d : D} (h : fe env u = .ok d u1) (hg : fg d env = some env1) : fUnp fe fg env u = .nx env1 u1 := by
  rw [fUnp_app, h, ok_after, hg]
end DL
namespace Mv
open PySem L2 DL
theorem tI2 (p : Int × Int) : LD p = tI [p.1, p.2] := rfl
section
variable {w : List Int}
theorem Win.gen_add (W : Win w) (hl : w.length ≤ 8) (x k q : Int) : it w (k + lcW w * q) x = it w k x + q * (it w (lcW w) x - x) := by
  obtain ⟨_, hM, _, hdv⟩ := W.lcW_spec hl
  -- all places go on by a multiple of n after lcW times
  have key : ∀ y : Int, ∃ e : Int, it w (lcW w) y = y + w.length * e := by
    intro y
    have hy := md_lt y W.pos
    have hc := W.covered w.length (Nat.le_refl _) (y % w.length).toNat (by omega)
    obtain ⟨r, hr, hm⟩ := List.mem_flatMap.mp hc
    obtain ⟨j, hj⟩ := List.getElem?_of_mem hm
    have hjl : j < cyc w r := by
      have := (List.getElem?_eq_some_iff.mp hj).1
      rwa [cells_len] at this
    rw [cells_get w r hjl] at hj
    have hj : it w j r % (w.length : Int) = y % w.length := by
      have := Option.some.inj hj
      omega
    obtain ⟨q, hq⟩ := hdv r hr
    have h1 := W.rounds_on r j q
    have h2 : it w (lcW w) (it w j r) = it w j r + w.length * (q * drift w r) := by
      rw [← W.it_add, show ((lcW w : Nat) : Int) + j = j + cyc w r * q by rw [hq, Int.natCast_mul]; omega, h1, ← Int.mul_assoc, Int.mul_comm]
    obtain ⟨e, he⟩ := dvd_of_mod (Int.emod_eq_emod_iff_emod_sub_eq_zero.mp hj.symm)
    refine ⟨q * drift w r, ?_⟩
    have h3 : y = it w j r + w.length * e := by omega
    rw [h3, W.it_shift, h2]
    omega
  obtain ⟨e, he⟩ := key x
  have up : ∀ q : Nat, ∀ k : Int, it w (k + lcW w * q) x = it w k x + q * (it w (lcW w) x - x) := by
    intro q
    induction q with
    | zero => intro k; simp
    | succ q ih =>
      intro k
      rw [show k + (lcW w : Int) * ((q + 1 : Nat) : Int) = (k + lcW w * q) + lcW w by rw [Int.natCast_add, Int.mul_add]; omega, W.it_add, he, W.it_shift, ih k]
      rw [Int.natCast_add, Int.add_mul, he]
      omega
  have h2 : ∀ q : Int, it w (lcW w * q) x = x + q * (it w (lcW w) x - x) := by
    intro q
    by_cases h : 0 ≤ q
    · have := up q.toNat 0
      rw [Int.toNat_of_nonneg h, Int.zero_add, it_zero] at this
      exact this
    · have := up (-q).toNat (lcW w * q)
      rw [Int.toNat_of_nonneg (by omega), Int.mul_neg, Int.add_right_neg, it_zero, Int.neg_mul] at this
      omega
  rw [W.it_add, h2 q, he, show x + q * (x + w.length * e - x) = x + w.length * (q * e) by rw [show x + w.length * e - x = w.length * e by omega, ← Int.mul_assoc, Int.mul_comm q, Int.mul_assoc], W.it_shift,
    show x + w.length * e - x = w.length * e by omega, Int.mul_comm q, Int.mul_comm q, Int.mul_assoc]
theorem wl_get (w : List Int) (M i : Nat) {x : Nat} (hx : x < w.length) : (wl w M i)[x]? = some (0 + (it w M x - x), -(it w M x - x) * i + it w i x * M) := by
  unfold wl rowL
  rw [List.getElem?_map, List.getElem?_map, List.getElem?_range hx]
  rfl
/-- the lines told lead right -/
theorem Win.told_line (W : Win w) (hl : w.length ≤ 8) {b : Nat} (hb : 0 < b) (hmod : lcW w % b = 0) (hg : good w (lcW w) b = true) {x : Nat} (hx : x < w.length) (times : Int) :
    (it w (lcW w) x - x) * b / (lcW w : Int) * ((times - times % b) / b) + it w ((times % b).toNat : Int) x = it w times x := by
  obtain ⟨_, hM, _, _⟩ := W.lcW_spec hl
  obtain ⟨M, hMe⟩ : ∃ M : Nat, M = lcW w := ⟨_, rfl⟩
  rw [← hMe] at hM hmod hg ⊢
  obtain ⟨a, ha⟩ : ∃ a : Int, a = it w M x - x := ⟨_, rfl⟩
  have hb' : (0 : Int) < b := by omega
  have hM' : (0 : Int) < M := by omega
  obtain ⟨c, hc⟩ : ∃ c : Nat, M = b * c := ⟨M / b, by have := Nat.div_add_mod M b; omega⟩
  -- M times what a power leads to
  have main : ∀ t : Int, (M : Int) * it w t x = a * (t - t % b) + M * it w ((t % b).toNat : Int) x := by
    intro t
    have h1 := W.gen_add hl x (t % M) (t / M)
    rw [← hMe, ← ha] at h1
    have hdm := Int.emod_add_mul_ediv t M
    rw [hdm] at h1
    have hR := Int.emod_nonneg t (show (M : Int) ≠ 0 by omega)
    have hR2 := Int.emod_lt_of_pos t hM'
    obtain ⟨R, hRe⟩ : ∃ R : Nat, (R : Int) = t % M := ⟨(t % M).toNat, Int.toNat_of_nonneg hR⟩
    have hRb : ((R % b : Nat) : Int) = t % b := by
      rw [Int.natCast_emod, hRe, hc, Int.natCast_mul]
      exact Int.emod_emod_of_dvd t ⟨c, rfl⟩
    unfold good at hg
    rw [List.all_eq_true] at hg
    have h2 := of_decide_eq_true (hg R (List.mem_range.mpr (by omega)))
    have h3 := wl_get w M R hx
    have h4 := wl_get w M (R % b) hx
    rw [h2, h4] at h3
    have h5 := congrArg Prod.snd (Option.some.inj h3)
    simp only at h5
    rw [← ha] at h5
    rw [show ((t % b).toNat : Int) = ((R % b : Nat) : Int) by rw [hRb, Int.toNat_of_nonneg (Int.emod_nonneg _ (by omega))], ← hRb, h1, ← hRe]
    have e1 : t = R + M * (t / M) := by omega
    have e2 : a * (t - ((R % b : Nat) : Int)) = a * R + a * (M * (t / M)) - a * ((R % b : Nat) : Int) := by
      have e3 : a * t = a * R + a * (M * (t / M)) := by rw [← Int.mul_add, ← e1]
      rw [Int.mul_sub, e3]
    rw [e2, Int.mul_add, show (M : Int) * (t / M * a) = a * (M * (t / M)) by rw [← Int.mul_assoc, Int.mul_comm]]
    rw [Int.neg_mul, Int.neg_mul] at h5
    rw [Int.mul_comm (it w (R : Int) x), Int.mul_comm (it w ((R % b : Nat) : Int) x)] at h5
    omega
  -- so M divides a * b
  have hdvd : ∃ d : Int, a * b = M * d := by
    have h1 := main b
    have h0 : ((b : Int) % b) = 0 := Int.emod_self
    rw [h0] at h1
    simp only [Int.toNat_zero] at h1
    have h2 : it w ((0 : Nat) : Int) x = x := it_zero w x
    rw [h2, Int.sub_zero] at h1
    exact ⟨it w b x - x, by rw [Int.mul_sub]; omega⟩
  obtain ⟨d, hd⟩ := hdvd
  rw [← ha, hd, Int.mul_ediv_cancel_left _ (by omega)]
  have h1 := main times
  have h2 : times - times % b = b * (times / b) := by have := Int.emod_add_mul_ediv times b; omega
  rw [h2] at h1 ⊢
  rw [Int.mul_ediv_cancel_left _ (by omega)]
  rw [← Int.mul_assoc, hd, Int.mul_assoc] at h1
  have h3 : (M : Int) * (d * (times / b) + it w ((times % b).toNat : Int) x) = M * it w times x := by
    rw [Int.mul_add]
    omega
  exact Int.eq_of_mul_eq_mul_left (by omega) h3
/-- how great the rows' numbers may be -/
structure RowsOk (w : List Int) : Prop where
  slope : ∀ x : Nat, x < w.length → Short (it w (lcW w) x - x)
  val : ∀ (i x : Nat), i < lcW w → x < w.length → Short (it w i x)
theorem short_div {a : Int} {b M : Nat} (h : Short a) (hb : b ≤ M) (hM : 0 < M) : Short (a * b / M) := by
  have h1 : (a * b / (M : Int)).natAbs ≤ a.natAbs := by
    have hM' : (0 : Int) < M := by omega
    have up : a * b / (M : Int) ≤ (a.natAbs : Int) := by
      refine Int.ediv_le_of_le_mul hM' ?_
      have h2 : a * b ≤ (a.natAbs : Int) * b := Int.mul_le_mul_of_nonneg_right (by omega) (by omega)
      have h3 : (a.natAbs : Int) * b ≤ (a.natAbs : Int) * M := Int.mul_le_mul_of_nonneg_left (by omega) (by omega)
      omega
    have lo : -(a.natAbs : Int) ≤ a * b / (M : Int) := by
      refine (Int.le_ediv_iff_mul_le hM').mpr ?_
      have h2 : -(a.natAbs : Int) * b ≤ a * b := Int.mul_le_mul_of_nonneg_right (by omega) (by omega)
      have h3 : (a.natAbs : Int) * b ≤ (a.natAbs : Int) * M := Int.mul_le_mul_of_nonneg_left (by omega) (by omega)
      rw [Int.neg_mul] at h2 ⊢
      omega
    omega
  unfold Short at *
  omega
theorem powers_told_eq (W : Win w) (hl : w.length ≤ 8) (ok : RowsOk w) : ∃ b : Nat, 0 < b ∧ lcW w % b = 0 ∧ good w (lcW w) b = true ∧
    ∀ u : Src, m_powers_told [.d (tI w)] u = .ok (.tuple [.int b, .tuple ((List.range b).map fun i => rowD (lrow w (lcW w) b i))]) u := by
  obtain ⟨_, hM, hM2, hdv⟩ := W.lcW_spec hl
  obtain ⟨b, hb, hbM, hmod, hg, hrows⟩ := least_rows_eq w hl hM (by omega)
  refine ⟨b, hb, hmod, hg, fun u => ?_⟩
  obtain ⟨M, hMe⟩ : ∃ M : Nat, M = lcW w := ⟨_, rfl⟩
  have hval := ok.val
  have hslope := ok.slope
  have hcc := cells_common_eq W hl u
  rw [← hMe] at hM hM2 hdv hbM hmod hg hrows hval hslope hcc ⊢
  obtain ⟨RR, hRR⟩ : ∃ RR : D, RR = .tuple ((List.range b).map fun i => rowD (lrow w M b i)) := ⟨_, rfl⟩
  have hrows := hrows u
  rw [← hRR] at hrows ⊢
  have s1 : fAsg 1 (fCallL 1 m_cells_common (fACons (fVar 0) fANil)) [Slot.val (tI w), .non, .non, .non, .non, .non, .non] u = .nx [.val (tI w), .val (.int M), .non, .non, .non, .non, .non] u := asg_ok (callL_ok (argsOne rfl) rfl hcc)
  have e2 : fLc (fR1 (fVar 1)) (gfName 6) fYes (fCallL 3 m_row_lines (fACons (fVar 0) (fACons (fVar 6) (fACons (fVar 1) fANil)))) [6] [.val (tI w), .val (.int M), .non, .non, .non, .non, .non] u = .ok (.list ((List.range M).map fun i => rowD (rowL w M i))) u :=
    lc_all (h := fun i : Nat => PyData.int i) (k := fun i : Nat => rowD (rowL w M i)) (List.range M) (r1_eval rfl (by omega)) (by rw [List.length_range]; exact line_of (by omega))
      (fun i hi => ⟨[.val (tI w), .val (.int M), .non, .non, .non, .non, .val (.int i)], rfl, callL_ok (args3 rfl rfl rfl) rfl (row_lines_eq W hl (by have := List.mem_range.mp hi; omega) (by omega) hdv u)⟩)
  have s2 := unp_ok (fg := gfTup 2 (gfCons (gfName 2) (gfCons (gfName 3) gfNil))) (callL_ok (n := 1) (argsOne e2) rfl hrows) (env1 := [.val (tI w), .val (.int M), .val (.int b), .val RR, .non, .non, .non]) rfl
  have s3 : ∃ (x4 x5 : Slot), fFor (fTupI (fVar 3)) (gfName 4) (fFor (fTupI (fVar 4)) (gfName 5) (fDrop (fCallL 1 m_not_long (fACons (fVar 5) fANil)))) [.val (tI w), .val (.int M), .val (.int b), .val RR, .non, .non, .non] u = .nx [.val (tI w), .val (.int M), .val (.int b), .val RR, x4, x5, .non] u := by
    obtain ⟨env', u', h1, rfl, x4, x5, rfl⟩ := for_run (fi := fTupI (fVar 3)) (fg := gfName 4) (fb := fFor (fTupI (fVar 4)) (gfName 5) (fDrop (fCallL 1 m_not_long (fACons (fVar 5) fANil)))) (env := [.val (tI w), .val (.int M), .val (.int b), .val RR, .non, .non, .non]) (u := u) (ds := (List.range b).map fun i => rowD (lrow w M b i))
      (fun k env u' => u' = u ∧ ∃ x4 x5 : Slot, env = [.val (tI w), .val (.int M), .val (.int b), .val RR, x4, x5, .non])
      (tupI_ok (by rw [hRR]; rfl))
      (fun k d env u' hk hi => by
        obtain ⟨rfl, x4, x5, rfl⟩ := hi
        have hkb : k < b := by
          have := (List.getElem?_eq_some_iff.mp hk).1
          simpa using this
        rw [List.getElem?_map, List.getElem?_range hkb] at hk
        cases hk
        obtain ⟨env2, u2, h2, rfl, y5, rfl⟩ := for_run (fi := fTupI (fVar 4)) (fg := gfName 5) (fb := fDrop (fCallL 1 m_not_long (fACons (fVar 5) fANil))) (env := [.val (tI w), .val (.int M), .val (.int b), .val RR, .val (rowD (lrow w M b k)), x5, .non]) (u := u') (ds := (lrow w M b k).map LD)
          (fun j env u2 => u2 = u' ∧ ∃ x5 : Slot, env = [.val (tI w), .val (.int M), .val (.int b), .val RR, .val (rowD (lrow w M b k)), x5, .non])
          (tupI_ok rfl)
          (fun j d env u2 hj hi => by
            obtain ⟨rfl, y5, rfl⟩ := hi
            have hjl : j < w.length := by
              have := (List.getElem?_eq_some_iff.mp hj).1
              simpa [lrow, rowL] using this
            have hd : d = LD ((it w M j - j) * b / M, it w k j) := by
              unfold lrow rowL at hj
              rw [List.getElem?_map, List.getElem?_map, List.getElem?_map, List.getElem?_range hjl] at hj
              exact (Option.some.inj hj).symm
            subst hd
            refine ⟨[.val (tI w), .val (.int M), .val (.int b), .val RR, .val (rowD (lrow w M b k)), .val (LD ((it w M j - j) * b / M, it w k j)), .non], _, u2, rfl, ?_, rfl, .val (LD ((it w M j - j) * b / M, it w k j)), rfl⟩
            have hnl := not_long_eq (ns := [(it w M j - j) * b / M, it w k j]) (fun n hn => by
              rcases List.mem_cons.mp hn with e | e
              · subst e; exact short_div (hslope j hjl) hbM hM
              · rw [List.mem_singleton] at e; subst e; exact hval k j (by omega) hjl) (by simp) u2
            rw [fDrop_app, callL_ok (n := 1) (argsOne (fe := fVar 5) (d := LD ((it w M j - j) * b / M, it w k j)) rfl) rfl hnl, ok_after])
          ⟨rfl, x5, rfl⟩
        exact ⟨_, _, _, rfl, h2, rfl, _, y5, rfl⟩)
      ⟨rfl, .non, .non, rfl⟩
    exact ⟨x4, x5, h1⟩
  obtain ⟨x4, x5, s3⟩ := s3
  refine fnD_rt ((seq_nx s1).trans ((seq_nx s2).trans ((seq_nx s3).trans ?_)))
  rw [fRet_app, fTup_app, fACons_app, show fVar 2 [Slot.val (tI w), .val (.int M), .val (.int b), .val RR, x4, x5, .non] u = .ok (.int b) u from rfl, ok_bind, argsOne (fe := fVar 3) (d := RR) rfl, ok_bind, ok_bind]
  rfl
end
end Mv

namespace DL
open PySem L2
@[simp] theorem fSrcI_app {k : SK} {i : Nat} {env : Env} {u : Src} : fSrcI k i env u = match env[i]? with | some .tok => .ok (.int (k.get u)) u | _ => .bad := rfl
@[simp] theorem fSrcLen_app {i : Nat} {env : Env} {u : Src} : fSrcLen i env u = match env[i]? with | some .tok => .ok (.int u.cells.length) u | _ => .bad := rfl
@[simp] theorem fSrcPop_app {i : Nat} {env : Env} {u : Src} : fSrcPop i env u = match env[i]? with | some .tok => (match u.cells.getLast? with | some z => .ok (.int z) { u with cells := u.cells.dropLast } | none => .bad) | _ => .bad := rfl
@[simp] theorem fSrcPut_app {k : SK} {i : Nat} {fe : EF Src D} {env : Env} {u : Src} : fSrcPut k i fe env u = match env[i]? with | some .tok => So.after (fe env u) env fun d u1 => (match d with | .int n => .nx env (k.set n u1) | _ => .bad) | _ => .bad := rfl
end DL
namespace Mv
open PySem L2 DL
/-- a source as the laws have it -/
structure SrcOk (u : Src) : Prop where
  cells : ∀ c ∈ u.cells, 0 ≤ c
  len : u.cells.length ≤ 1000
  left : 0 ≤ u.left
  mixed : 0 ≤ u.mixed
  small : u.mixed < 2147483647
  turn : 0 ≤ u.turn
theorem srcOf_ok (ns : List Int) (hl : ns.length ≤ 63) : SrcOk (srcOf ns) := by
  have hm : ∀ (l : List Int) (m : Int), 0 ≤ m → m < 2147483629 → 0 ≤ l.foldl mixStep m ∧ l.foldl mixStep m < 2147483629 := by
    intro l
    induction l with
    | nil => intro m h1 h2; exact ⟨h1, h2⟩
    | cons c l ih =>
      intro m _ _
      exact ih _ (Int.emod_nonneg _ (by decide)) (Int.emod_lt_of_pos _ (by decide))
  obtain ⟨h1, h2⟩ := hm ns 11 (by decide) (by decide)
  refine ⟨fun c hc => ?_, by simp [srcOf]; omega, (by show (0 : Int) ≤ 1; decide), h1, by show ns.foldl mixStep 11 < _; omega, (by show (0 : Int) ≤ 0; decide)⟩
  have hc : c ∈ (ns.map absI).reverse := hc
  rw [List.mem_reverse, List.mem_map] at hc
  obtain ⟨z, _, rfl⟩ := hc
  unfold absI
  split <;> omega
/-- the pick's loop -/
theorem pick_loop (many : Int) : ∀ (fuel : Nat) (u : Src), u.cells.length < fuel → SrcOk u → ∃ u', whileD (fAnd (fB (fBin (cmpI gtI) (fVar 1) (fC (.int 1)))) (fAnd (fB (fBin (cmpI ltI) (fSrcI .left 0) (fC (.int 2)))) (fB (fBin (cmpI gtI) (fSrcLen 0) (fC (.int 0)))))) (fSrcPut .left 0 (fSrcPop 0)) fuel [.tok, .val (.int many), .non, .non] u = .nx [.tok, .val (.int many), .non, .non] u' ∧ SrcOk u'
  | 0, _, h, _ => absurd h (Nat.not_lt_zero _)
  | fuel + 1, u, h, ok => by
    by_cases h1 : 1 < many
    · by_cases h2 : u.left < 2
      · cases hc : u.cells.getLast? with
        | none =>
          have hn : u.cells = [] := List.getLast?_eq_none_iff.mp hc
          refine ⟨u, ?_, ok⟩
          unfold whileD
          simp [h1, h2, hn, SK.get]
        | some z =>
          have hz := List.mem_of_getLast? hc
          have hne : u.cells ≠ [] := List.ne_nil_of_mem hz
          have hpos : 0 < u.cells.length := List.length_pos_of_mem hz
          obtain ⟨u', e, ok'⟩ := pick_loop many fuel (SK.left.set z { u with cells := u.cells.dropLast }) (by
              show u.cells.dropLast.length < fuel
              rw [List.length_dropLast]
              omega)
            ⟨fun c hcm => ok.cells c ((List.dropLast_subset _) hcm), by show u.cells.dropLast.length ≤ 1000; rw [List.length_dropLast]; have := ok.len; omega, ok.cells z hz, ok.mixed, ok.small, ok.turn⟩
          refine ⟨u', ?_, ok'⟩
          unfold whileD
          simp [h1, h2, hpos, hc, SK.get]
          exact e
      · refine ⟨u, ?_, ok⟩
        unfold whileD
        simp [h1, h2, SK.get]
    · refine ⟨u, ?_, ok⟩
      unfold whileD
      simp [h1]
theorem pick_spec {u : Src} (ok : SrcOk u) {many : Nat} (h1 : 1 ≤ many) (h2 : many ≤ 1000000) : ∃ (i : Nat) (u' : Src), m_law_pick [.tok, .d (.int many)] u = .ok (.int i) u' ∧ i < many ∧ SrcOk u' := by
  obtain ⟨u1, e, ok1⟩ := pick_loop many 100000 u (by have := ok.len; omega) ok
  have e : fWhile (fAnd (fB (fBin (cmpI gtI) (fVar 1) (fC (.int 1)))) (fAnd (fB (fBin (cmpI ltI) (fSrcI .left 0) (fC (.int 2)))) (fB (fBin (cmpI gtI) (fSrcLen 0) (fC (.int 0)))))) (fSrcPut .left 0 (fSrcPop 0)) [.tok, .val (.int many), .non, .non] u = .nx [.tok, .val (.int many), .non, .non] u1 := e
  have hmx : (if (many : Int) > 1 then (many : Int) else 1) = many := by split <;> omega
  have hmod : ∀ x : Int, modD (.int x) (.int many) = some (.int (x % many)) := fun x => modD_int (by omega)
  have hlog : (many : Int).natAbs.log2 < 9000 := by
    have : many.log2 < 9000 := by
      by_cases h0 : many = 0
      · omega
      · have : many.log2 < 20 := (Nat.log2_lt h0).mpr (by omega)
        omega
    simpa using this
  have hdiv : ∀ x : Int, fdivD (.int x) (.int many) = some (.int (x / many)) := fun x => fdivD_int (by omega) hlog
  have hi : ∀ x : Int, ∃ i : Nat, (i : Int) = x % many ∧ i < many := fun x => by
    have a := Int.emod_nonneg x (show (many : Int) ≠ 0 by omega)
    have b := Int.emod_lt_of_pos x (show (0 : Int) < many by omega)
    exact ⟨(x % many).toNat, Int.toNat_of_nonneg a, by omega⟩
  by_cases hl : (many : Int) < 2 ∨ 1 < u1.left
  · obtain ⟨i, hie, hil⟩ := hi u1.left
    refine ⟨i, { u1 with left := u1.left / many }, ?_, hil, ⟨ok1.cells, ok1.len, Int.ediv_nonneg ok1.left (by omega), ok1.mixed, ok1.small, ok1.turn⟩⟩
    rcases hl with hl | hl
    · simp [m_law_pick, b_law_pick, e, hl, SK.get, SK.set, hmx, hmod, hdiv, hie]
    · by_cases hl0 : (many : Int) < 2
      · simp [m_law_pick, b_law_pick, e, hl0, SK.get, SK.set, hmx, hmod, hdiv, hie]
      · simp [m_law_pick, b_law_pick, e, hl, hl0, SK.get, SK.set, hmx, hmod, hdiv, hie]
  · have hl1 : ¬ (many : Int) < 2 := fun z => hl (.inl z)
    have hl2 : ¬ 1 < u1.left := fun z => hl (.inr z)
    obtain ⟨t, ht⟩ : ∃ t, t = u1.turn + 1 := ⟨_, rfl⟩
    obtain ⟨m1, hm1⟩ : ∃ m1, m1 = (u1.mixed + t * 104729) % 998244353 := ⟨_, rfl⟩
    have b1 : 0 ≤ m1 := by rw [hm1]; exact Int.emod_nonneg _ (by decide)
    have b2 : m1 < 998244353 := by rw [hm1]; exact Int.emod_lt_of_pos _ (by decide)
    obtain ⟨m2, hm2⟩ : ∃ m2, m2 = (m1 * m1 + t * 17) % 2147483647 := ⟨_, rfl⟩
    have c1 : 0 ≤ m2 := by rw [hm2]; exact Int.emod_nonneg _ (by decide)
    have c2 : m2 < 2147483647 := by rw [hm2]; exact Int.emod_lt_of_pos _ (by decide)
    have g1 : mulD (.int t) (.int 104729) = some (.int (t * 104729)) := mulD_int (.inr (.inl (by decide)))
    have g2 : modD (.int (u1.mixed + t * 104729)) (.int 998244353) = some (.int m1) := by rw [hm1]; exact modD_int (by decide)
    have g3 : mulD (.int m1) (.int m1) = some (.int (m1 * m1)) := mulD_int (.inl (by omega))
    have g4 : mulD (.int t) (.int 17) = some (.int (t * 17)) := mulD_int (.inr (.inl (by decide)))
    have g5 : modD (.int (m1 * m1 + t * 17)) (.int 2147483647) = some (.int m2) := by rw [hm2]; exact modD_int (by decide)
    have g6 : fdivD (.int m2) (.int 16) = some (.int (m2 / 16)) := fdivD_int (by decide) (by decide)
    obtain ⟨i, hie, hil⟩ := hi (m2 / 16)
    refine ⟨i, { u1 with turn := t, mixed := m2 }, ?_, hil, ⟨ok1.cells, ok1.len, ok1.left, c1, c2, by have := ok1.turn; show 0 ≤ t; omega⟩⟩
    simp [m_law_pick, b_law_pick, e, hl1, hl2, SK.get, SK.set, ← ht, g1, g2, g3, g4, g5, g6, hmod, hie]
theorem of_spec {u : Src} (ok : SrcOk u) {ds : List D} (h1 : ds ≠ []) (h2 : ds.length ≤ 1000) : ∃ (d : D) (u' : Src), m_law_of [.tok, .d (.list ds)] u = .ok d u' ∧ d ∈ ds ∧ SrcOk u' := by
  have hp : 1 ≤ ds.length := by
    cases ds with
    | nil => exact absurd rfl h1
    | cons _ _ => simp
  obtain ⟨i, u', e, hi, ok'⟩ := pick_spec ok (many := ds.length) hp (by omega)
  have hg : ixQ (.list ds) (.int i) = some ds[i] := ixQ_list (by omega) (by simp [hi])
  refine ⟨ds[i], u', ?_, List.getElem_mem hi, ok'⟩
  simp [m_law_of, b_law_of, e, hg]
end Mv

set_option exponentiation.threshold 1000
namespace DL
open PySem L2
/-- a comprehension that goes on in the world -/
theorem lcD_run {U α : Type} {fg : D → Env → Option Env} {fe : EF U D} {env : Env} {h : α → D} (J : U → Prop) (R : α → D → Prop) : ∀ (l : List α) (u : U), J u →
    (∀ a ∈ l, ∀ u, J u → ∃ e1 d u', fg (h a) env = some e1 ∧ fe e1 u = .ok d u' ∧ R a d ∧ J u') → ∃ ds u', lcD fg fYes fe env (l.map h) u = .ok ds u' ∧ ds.length = l.length ∧ (∀ (i : Nat) a d, l[i]? = some a → ds[i]? = some d → R a d) ∧ J u'
  | [], u, j, _ => ⟨[], u, rfl, rfl, fun i a d h => by simp at h, j⟩
  | a :: l, u, j, hs => by
    obtain ⟨e1, d, u1, h1, h2, h3, j1⟩ := hs a List.mem_cons_self u j
    obtain ⟨ds, u2, h4, h5, h6, j2⟩ := lcD_run J R l u1 j1 fun b hb => hs b (List.mem_cons_of_mem _ hb)
    refine ⟨d :: ds, u2, ?_, by simp [h5], fun i b c hb hc => ?_, j2⟩
    · rw [List.map_cons, lcD, h1]
      simp only [fYes_app, h2, h4]
      rfl
    · cases i with
      | zero =>
        cases hb
        cases hc
        exact h3
      | succ i => exact h6 i b c (by simpa using hb) (by simpa using hc)
theorem lc_run {U α : Type} {fg : D → Env → Option Env} {fe : EF U D} {fi : EF U (List D)} {vs : List Nat} {env : Env} {h : α → D} (J : U → Prop) (R : α → D → Prop) (l : List α) {u : U} (hi : fi env u = .ok (l.map h) u) (hl : l.length ≤ line100) (j : J u)
    (hs : ∀ a ∈ l, ∀ u, J u → ∃ e1 d u', fg (h a) (wipeE env vs) = some e1 ∧ fe e1 u = .ok d u' ∧ R a d ∧ J u') : ∃ ds u', fLc fi fg fYes fe vs env u = .ok (.list ds) u' ∧ ds.length = l.length ∧ (∀ (i : Nat) a d, l[i]? = some a → ds[i]? = some d → R a d) ∧ J u' := by
  obtain ⟨ds, u', h1, h2⟩ := lcD_run J R l u j hs
  refine ⟨ds, u', ?_, h2⟩
  unfold fLc
  rw [hi]
  show (if (l.map h).length ≤ line100 then _ else _) = _
  rw [if_pos (by rw [List.length_map]; exact hl), h1]
  rfl
end DL
namespace Mv
open PySem L2 DL
theorem erase_perm {α : Type} : ∀ {l : List α} {i : Nat} (h : i < l.length), (l[i] :: l.eraseIdx i).Perm l
  | a :: l, 0, _ => List.Perm.refl _
  | a :: l, i + 1, h => by
    have hi : i < l.length := by simpa using h
    have ih := erase_perm hi
    show (l[i] :: a :: l.eraseIdx i).Perm (a :: l)
    exact (List.Perm.swap a l[i] _).trans (ih.cons a)
theorem nodup_inj {α : Type} {l : List α} (hd : l.Nodup) {i j : Nat} (hi : i < l.length) (hj : j < l.length) (e : l[i] = l[j]) : i = j := by
  have h := List.pairwise_iff_getElem.mp (List.nodup_iff_pairwise_ne.mp hd)
  rcases Nat.lt_trichotomy i j with c | c | c
  · exact absurd e (h i j hi hj c)
  · exact c
  · exact absurd e.symm (h j i hj hi c)
theorem mixGo_spec : ∀ (n : Nat) (ds : List D) (u : Src), ds.length = n → n ≤ 1000 → SrcOk u → ∃ r, mixGo m_law_pick n ds u = some r ∧ r.1.Perm ds ∧ SrcOk r.2
  | 0, ds, u, h, _, ok => ⟨([], u), rfl, by rw [List.length_eq_zero_iff.mp h], ok⟩
  | n + 1, ds, u, h, hn, ok => by
    obtain ⟨i, u1, e, hi, ok1⟩ := pick_spec ok (many := ds.length) (by omega) (by omega)
    obtain ⟨r, e2, p, ok2⟩ := mixGo_spec n (ds.eraseIdx i) u1 (by rw [List.length_eraseIdx_of_lt hi]; omega) (by omega) ok1
    refine ⟨(ds[i] :: r.1, r.2), ?_, ?_, ok2⟩
    · unfold mixGo
      rw [e]
      have hc : (decide ((0 : Int) ≤ (i : Int)) && decide ((i : Int) < 1000)) = true := by
        rw [Bool.and_eq_true, decide_eq_true_eq, decide_eq_true_eq]
        omega
      simp only [hc, if_true, Int.toNat_natCast, List.getElem?_eq_getElem hi, e2, Option.map_some]
    · exact (List.Perm.cons _ p).trans (erase_perm hi)
theorem mixed_spec {u : Src} (ok : SrcOk u) {ds : List D} (h : ds.length ≤ 1000) : ∃ (xs : List D) (u' : Src), m_law_mixed [.tok, .d (.list ds)] u = .ok (.list xs) u' ∧ xs.Perm ds ∧ SrcOk u' := by
  obtain ⟨r, e, p, ok'⟩ := mixGo_spec ds.length ds u rfl h ok
  refine ⟨r.1, r.2, ?_, p, ok'⟩
  show mixAll m_law_pick ds u = _
  unfold mixAll
  rw [if_pos h, e]
/-! ### how far a window leads -/
section
variable {w : List Int}
def Bound (w : List Int) (B : Nat) : Prop := ∀ i : Nat, i < w.length → (w.getD i 0 - i).natAbs ≤ B
theorem Win.at_bound (W : Win w) {B : Nat} (hB : Bound w B) (x : Int) : (at_ w x - x).natAbs ≤ B := by
  have h := md_lt x W.pos
  have := hB (x % w.length).toNat (by omega)
  rw [Int.toNat_of_nonneg h.1] at this
  unfold at_
  omega
theorem Win.it_bound (W : Win w) {B : Nat} (hB : Bound w B) (k x : Int) : (it w k x - x).natAbs ≤ k.natAbs * B := by
  have up : ∀ m : Nat, ∀ x, (it w m x - x).natAbs ≤ m * B := by
    intro m
    induction m with
    | zero => intro x; rw [show it w ((0 : Nat) : Int) x = x from it_zero w x]; simp
    | succ m ih =>
      intro x
      rw [show ((m + 1 : Nat) : Int) = (m : Int) + 1 by omega, W.it_succ, Nat.add_mul]
      have h1 := ih x
      have h2 := W.at_bound hB (it w m x)
      omega
  by_cases h : 0 ≤ k
  · have := up k.toNat x
    rw [Int.toNat_of_nonneg h] at this
    rwa [show k.toNat = k.natAbs by omega] at this
  · have := up k.natAbs (it w k x)
    rw [← W.it_add, show (k.natAbs : Int) + k = 0 by omega, it_zero] at this
    omega
theorem Win.cyc_bound (W : Win w) {B : Nat} (hB : Bound w B) (r : Int) : (drift w r * w.length).natAbs ≤ w.length * B := by
  have h1 := W.drift_eq r
  have h2 := W.it_bound hB (cyc w r) r
  have h3 := (W.cyc_spec r).2.1
  have h4 : (cyc w r : Int).natAbs * B ≤ w.length * B := Nat.mul_le_mul_right B (by omega)
  rw [Int.mul_comm]
  omega
theorem Win.pow_ok (W : Win w) (hl : w.length ≤ 100) {B : Nat} (hB : Bound w B) (hB2 : B ≤ 10 ^ 15) {k : Int} (hk : k.natAbs ≤ 10 ^ 282) : PowOk w k := by
  refine ⟨Nat.lt_of_le_of_lt hk (by decide +kernel), fun r _ => ?_, fun x hx => ?_⟩
  · have h1 := W.cyc_bound hB (r : Int)
    have h2 : w.length * B ≤ 100 * 10 ^ 15 := Nat.mul_le_mul hl hB2
    exact Nat.lt_of_le_of_lt (Nat.le_trans h1 h2) (by decide +kernel)
  · have h1 := W.it_bound hB k x
    have h2 : k.natAbs * B ≤ 10 ^ 282 * 10 ^ 15 := Nat.mul_le_mul hk hB2
    have h3 : 10 ^ 282 * 10 ^ 15 + 100 < 10 ^ 300 := by decide +kernel
    unfold Short
    have h4 : (it w k x).natAbs ≤ (it w k x - x).natAbs + x := by omega
    omega
theorem Win.rows_ok (W : Win w) (hl : w.length ≤ 8) {B : Nat} (hB : Bound w B) (hB2 : B ≤ 10 ^ 15) : RowsOk w := by
  obtain ⟨_, _, hM, _⟩ := W.lcW_spec hl
  have h0 : 840 * 10 ^ 15 + 100 < 10 ^ 300 := by decide +kernel
  refine ⟨fun x hx => ?_, fun i x hi hx => ?_⟩
  · have h1 := W.it_bound hB (lcW w) x
    have h2 : ((lcW w : Nat) : Int).natAbs * B ≤ 840 * 10 ^ 15 := Nat.mul_le_mul (by omega) hB2
    unfold Short
    omega
  · have h1 := W.it_bound hB i x
    have h2 : ((i : Nat) : Int).natAbs * B ≤ 840 * 10 ^ 15 := Nat.mul_le_mul (by omega) hB2
    unfold Short
    have h4 : (it w i x).natAbs ≤ (it w i x - x).natAbs + x := by omega
    omega
end
/-! ### windows drawn -/
theorem fLstRg_eval {fe : EF Src D} {env : DL.Env} {u : Src} {n : Nat} (h : fe env u = .ok (.int n) u) (hn : n ≤ 100000) : fLstRg (fRg1 fe) env u = .ok (.list ((List.range n).map fun i : Nat => PyData.int i)) u := by
  unfold fLstRg fRg1 fI
  rw [h]
  show (if rgOk (0, (n : Int)) = true then _ else _) = _
  rw [if_pos (by unfold rgOk; simp; omega)]
  show Rs.ok (PyData.list (rgD 0 n)) u = _
  rw [rg_list]
theorem win_of {n : Nat} (hn : 0 < n) {rests : List Nat} (hp : rests.Perm (List.range n)) {w : List Int} (hl : w.length = rests.length) (hw : ∀ (i : Nat) r z, rests[i]? = some r → w[i]? = some z → ∃ k : Int, z = r + n * k) : Win w ∧ w.length = n := by
  have hlen : rests.length = n := by rw [hp.length_eq, List.length_range]
  have hnd : rests.Nodup := hp.nodup_iff.mpr List.nodup_range
  refine ⟨⟨by omega, fun i j hi hj e => ?_⟩, by omega⟩
  have val : ∀ i : Nat, (hi : i < w.length) → w.getD i 0 % (w.length : Int) = (rests[i]'(by omega) : Nat) := fun i hi => by
    obtain ⟨k, hk⟩ := hw i (rests[i]'(by omega)) w[i] (List.getElem?_eq_getElem _) (List.getElem?_eq_getElem hi)
    have hr : rests[i]'(by omega) < n := List.mem_range.mp (hp.mem_iff.mp (List.getElem_mem _))
    have hwn : (w.length : Int) = n := by omega
    rw [List.getD_eq_getElem?_getD, List.getElem?_eq_getElem hi, Option.getD_some, hk, hwn, Int.add_mul_emod_self_left, Int.emod_eq_of_lt (by omega) (by omega)]
  rw [val i hi, val j hj] at e
  exact nodup_inj hnd (by omega) (by omega) (by omega)
end Mv

set_option exponentiation.threshold 1000
namespace DL
open PySem L2
theorem ret_ok {U : Type} {fe : EF U D} {env : Env} {u u1 : U} {d : D} (h : fe env u = .ok d u1) : fRet fe env u = .rt d u1 := by
  rw [fRet_app, h, ok_after]
end DL
namespace Mv
open PySem L2 DL
theorem shown_ints : ∀ (ns : List Int), (∀ n ∈ ns, Short n) → ∀ t ∈ PyData.shownAll (ns.map PyData.int), t.length ≤ 1000
  | [], _, t, h => by cases h
  | n :: r, hs, t, h => by
    have h : t ∈ Str.ofString (toString n) :: PyData.shownAll (r.map PyData.int) := h
    rcases List.mem_cons.mp h with e | e
    · subst e
      have := int_text_length_le10 (a := n) (k := 300) (by decide) (hs n List.mem_cons_self)
      rw [ofString_length]
      omega
    · exact shown_ints r (fun m hm => hs m (List.mem_cons_of_mem _ hm)) t e
theorem shownAll_len : ∀ ds : List D, (PyData.shownAll ds).length = ds.length
  | [] => rfl
  | d :: r => by
    show (PyData.shownAll r).length + 1 = r.length + 1
    rw [shownAll_len r]
theorem join_len : ∀ (ts : List Str) (k : Nat), (∀ t ∈ ts, t.length ≤ k) → (Str.join ", " ts).length ≤ ts.length * (k + 2)
  | [], k, _ => by
    show (0 : Nat) ≤ _
    omega
  | t :: r, k, h => by
    have hp := join_length_add (t :: r) (by simp)
    have hs : ∀ ts : List Str, (∀ t ∈ ts, t.length ≤ k) → piled ts ≤ ts.length * (k + 2) := by
      intro ts
      induction ts with
      | nil => intro _; simp [piled]
      | cons x xs ih =>
        intro h
        have h1 := h x List.mem_cons_self
        have h2 := ih fun y hy => h y (List.mem_cons_of_mem _ hy)
        rw [piled_cons, List.length_cons, Nat.add_mul]
        omega
    have := hs (t :: r) h
    omega
theorem tup_len (ts : List Str) (k : Nat) (h : ∀ t ∈ ts, t.length ≤ k) : (tupleText ts).length ≤ ts.length * (k + 2) + 3 := by
  unfold tupleText
  rw [strLen_append, strLen_append]
  have e1 : ((("(" : String) : Str)).length = 1 := rfl
  have e3 : (((if ts.length == 1 then ",)" else ")" : String) : Str)).length ≤ 2 := by split <;> decide
  have := join_len ts k h
  omega
theorem show_ints : ∀ (ns : List Int), (∀ n ∈ ns, Short n) → PyData.showableAll (ns.map PyData.int) = true ∧ PyData.hasDictAll (ns.map PyData.int) = false ∧ PyData.depthAll (ns.map PyData.int) = 0 ∧ PyData.canLayAll0 (ns.map PyData.int) = true
  | [], _ => ⟨rfl, rfl, rfl, rfl⟩
  | n :: r, hs => by
    obtain ⟨h1, h2, h3, h4⟩ := show_ints r fun m hm => hs m (List.mem_cons_of_mem _ hm)
    have hl := short_log (hs n List.mem_cons_self)
    refine ⟨?_, ?_, ?_, ?_⟩
    · show (decide (n.natAbs.log2 < 1920) && PyData.showableAll (r.map PyData.int)) = true
      rw [h1, Bool.and_true, decide_eq_true_eq]
      omega
    · show (false || PyData.hasDictAll (r.map PyData.int)) = false
      rw [h2]
      rfl
    · show max 0 (PyData.depthAll (r.map PyData.int)) = 0
      rw [h3]
      rfl
    · show (true && PyData.canLayAll0 (r.map PyData.int)) = true
      rw [h4]
      rfl
theorem repr_tI {ns : List Int} (hs : ∀ n ∈ ns, Short n) (hl : ns.length ≤ 1000) : reprD [tI ns] = some (.str (PyData.shown (tI ns))) := by
  obtain ⟨h1, h2, h3, _⟩ := show_ints ns hs
  have hlen : (PyData.shown (tI ns)).length ≤ sizeLine := by
    have := tup_len (PyData.shownAll (ns.map PyData.int)) 1000 (shown_ints ns hs)
    rw [shownAll_len, List.length_map] at this
    have h5 : ns.length * (1000 + 2) ≤ 1000 * (1000 + 2) := Nat.mul_le_mul_right _ hl
    exact Nat.le_trans this (Nat.le_trans (Nat.add_le_add_right h5 3) (by decide +kernel))
  have hok : showOk (tI ns) = true := by
    unfold showOk
    have a1 : PyData.showable (tI ns) = true := h1
    have a2 : PyData.hasDict (tI ns) = false := h2
    have a3 : PyData.depth (tI ns) ≤ 60 := by
      show PyData.depthAll (ns.map PyData.int) + 1 ≤ 60
      omega
    rw [a1, a2, decide_eq_true a3, decide_eq_true hlen]
    rfl
  show (if showOk (tI ns) = true then some (PyData.str (PyData.shown (tI ns))) else none) = _
  rw [if_pos hok]
theorem neV_str (x : Str) : DL.neV (.str x) (.str x) = some (.bool false) := by
  show some (PyData.bool (!decide (x = x))) = _
  rw [decide_eq_true rfl]
  rfl
theorem eqvAll_ints : ∀ l l' : List Int, PyData.eqvAll (l.map PyData.int) (l'.map PyData.int) = decide (l = l')
  | [], [] => rfl
  | [], _ :: _ => rfl
  | _ :: _, [] => rfl
  | p :: l, q :: l' => by
    show (p == q && PyData.eqvAll (l.map PyData.int) (l'.map PyData.int)) = _
    rw [eqvAll_ints l l', Bool.eq_iff_iff]
    simp
theorem shaped_tI (ns : List Int) : SeqAt.shaped (tI ns) = true ∧ PyData.hasDict (tI ns) = false := by
  have key : ∀ ns : List Int, PyData.hasDictAll (ns.map PyData.int) = false ∧ PyData.depthAll (ns.map PyData.int) = 0 ∧ PyData.canLayAll0 (ns.map PyData.int) = true := by
    intro ns
    induction ns with
    | nil => exact ⟨rfl, rfl, rfl⟩
    | cons n r ih =>
      obtain ⟨h2, h3, h4⟩ := ih
      refine ⟨?_, ?_, ?_⟩
      · show (false || PyData.hasDictAll (r.map PyData.int)) = false
        rw [h2]; rfl
      · show max 0 (PyData.depthAll (r.map PyData.int)) = 0
        rw [h3]; rfl
      · show (true && PyData.canLayAll0 (r.map PyData.int)) = true
        rw [h4]; rfl
  obtain ⟨h2, h3, h4⟩ := key ns
  refine ⟨?_, h2⟩
  unfold SeqAt.shaped
  rw [show PyData.canLay0 (tI ns) = true from h4]
  have : PyData.depth (tI ns) ≤ 64 := by
    show PyData.depthAll (ns.map PyData.int) + 1 ≤ 64
    omega
  simp [this]
theorem neV_tI (l l' : List Int) : DL.neV (tI l) (tI l') = some (.bool (!decide (l = l'))) := by
  have e : DL.eqD (tI l) (tI l') = some (PyData.eqv (tI l) (tI l')) := by
    show (if _ then _ else _) = _
    rw [if_pos ⟨(shaped_tI l).1, (shaped_tI l').1, (shaped_tI l).2, (shaped_tI l').2⟩]
  unfold DL.neV
  rw [e]
  show some (PyData.bool (!PyData.eqvAll (l.map PyData.int) (l'.map PyData.int))) = _
  rw [eqvAll_ints]
section
variable {w : List Int}
theorem window_on_eq (W : Win w) {v : List Int} (hl : v.length ≤ 1000) (hs : ∀ x ∈ v, Short (at_ w x)) (u : Src) : m_window_on [.d (tI w), .d (tI v)] u = .ok (tI (v.map (at_ w))) u := by
  have e := lc_all (h := PyData.int) (k := fun x : Int => PyData.int (at_ w x)) (fi := fTupI (fVar 1)) (fg := gfName 2) (fe := fCallL 2 m_place_at (fACons (fVar 0) (fACons (fVar 2) fANil))) (vs := [2]) (env := [.val (tI w), .val (tI v), .non]) (u := u) v rfl (line_of (by omega))
    (fun x hx => ⟨[.val (tI w), .val (tI v), .val (.int x)], rfl, callL_ok (as := [.d (tI w), .d (.int x)]) rfl rfl (place_at_eq W.pos x u)⟩)
  have hm := window_made_eq (ns := v.map (at_ w)) (fun n hn => by
    obtain ⟨x, hx, e⟩ := List.mem_map.mp hn
    rw [← e]
    exact hs x hx) (by simp; omega) u
  have ht : tI (v.map (at_ w)) = .tuple (v.map fun x : Int => PyData.int (at_ w x)) := by
    unfold tI
    rw [List.map_map]
    rfl
  have hc : fCall tupleD (fPCons (fLc (fTupI (fVar 1)) (gfName 2) fYes (fCallL 2 m_place_at (fACons (fVar 0) (fACons (fVar 2) fANil))) [2]) fPNil) [Slot.val (tI w), .val (tI v), .non] u = .ok (tI (v.map (at_ w))) u := by
    rw [fCall_app, fPCons_app, e, ht]
    rfl
  exact fnD_rt (ret_ok (callL_ok (n := 1) (argsOne hc) rfl hm))
theorem window_undone_eq (W : Win w) (hl : w.length ≤ 1000) (hs : ∀ x : Nat, x < w.length → Short (bk w x)) (u : Src) : m_window_undone [.d (tI w)] u = .ok (tI ((List.range w.length).map fun x : Nat => bk w x)) u := by
  have e := lc_all (h := fun x : Nat => PyData.int x) (k := fun x : Nat => PyData.int (bk w x)) (fi := fR1 (fCall lenD (fPCons (fVar 0) fPNil))) (fg := gfName 1) (fe := fCallL 2 m_place_back (fACons (fVar 0) (fACons (fVar 1) fANil))) (vs := [1]) (env := [.val (tI w), .non]) (u := u) (List.range w.length)
    (r1_eval (by simp) (by omega)) (by rw [List.length_range]; exact line_of (by omega))
    (fun x hx => ⟨[.val (tI w), .val (.int x)], rfl, callL_ok (as := [.d (tI w), .d (.int x)]) rfl rfl (place_back_eq W (by omega) x u)⟩)
  have hm := window_made_eq (ns := (List.range w.length).map fun x : Nat => bk w x) (fun n hn => by
    obtain ⟨x, hx, e⟩ := List.mem_map.mp hn
    rw [← e]
    exact hs x (List.mem_range.mp hx)) (by simp; omega) u
  have ht : tI ((List.range w.length).map fun x : Nat => bk w x) = .tuple ((List.range w.length).map fun x : Nat => PyData.int (bk w x)) := by
    unfold tI
    rw [List.map_map]
    rfl
  have hc : fCall tupleD (fPCons (fLc (fR1 (fCall lenD (fPCons (fVar 0) fPNil))) (gfName 1) fYes (fCallL 2 m_place_back (fACons (fVar 0) (fACons (fVar 1) fANil))) [1]) fPNil) [Slot.val (tI w), .non] u = .ok (tI ((List.range w.length).map fun x : Nat => bk w x)) u := by
    rw [fCall_app, fPCons_app, e, ht]
    rfl
  exact fnD_rt (ret_ok (callL_ok (n := 1) (argsOne hc) rfl hm))
/-- taken so often, as a window -/
def pw (w : List Int) (k : Int) : List Int := (List.range w.length).map fun x : Nat => it w k x
theorem pw_len (w : List Int) (k : Int) : (pw w k).length = w.length := by simp [pw]
theorem Win.pw_at (W : Win w) (k x : Int) : at_ (pw w k) x = it w k x := by
  have h := md_lt x W.pos
  have e := Int.emod_add_mul_ediv x w.length
  rw [at_div, pw_len, show (pw w k).getD (x % (w.length : Int)).toNat 0 = it w k (x % w.length) by
    unfold pw
    rw [getD_map_range (by omega), Int.toNat_of_nonneg h.1], ← W.it_shift, e]
theorem Win.pw_win (W : Win w) (k : Int) : Win (pw w k) := by
  have hn := W.n0
  refine ⟨by rw [pw_len]; exact W.pos, fun i j hi hj e => ?_⟩
  rw [pw_len] at hi hj e
  unfold pw at e
  rw [getD_map_range hi, getD_map_range hj] at e
  obtain ⟨c, hc⟩ := dvd_of_mod (Int.emod_eq_emod_iff_emod_sub_eq_zero.mp e)
  have h1 : it w k i = it w k (j + w.length * c) := by rw [W.it_shift]; omega
  have h2 : (i : Int) = j + w.length * c := by
    have := congrArg (it w (-k)) h1
    rwa [← W.it_add, ← W.it_add, show -k + k = 0 by omega, it_zero, it_zero] at this
  have h3 : ((i : Int)) % w.length = (j : Int) % w.length := by rw [h2, Int.add_mul_emod_self_left]
  rw [Int.emod_eq_of_lt (by omega) (by omega), Int.emod_eq_of_lt (by omega) (by omega)] at h3
  omega
end
end Mv

namespace K67
open PySem L2 DL Mv
/-! ### the text by places -/
def topS (i : Nat) : Stmt := PySem.Challenge.pw_movedalike_k67_whole_far_places.main.body.getD i (.Pass ⟨0, 0, 0, 0⟩)
abbrev st_law_source : Stmt := topS 33
def N_law_source : List Str := ["script", "mixed", "cell"]
theorem sc_law_source : FnScope N_law_source ["script"] (defScope st_law_source) := ⟨rfl, rfl, rfl, by decide +kernel, rfl, by decide +kernel, by decide +kernel⟩
abbrev st_law_pick : Stmt := topS 34
def N_law_pick : List Str := ["source", "many", "left", "mixed"]
theorem sc_law_pick : FnScope N_law_pick ["source", "many"] (defScope st_law_pick) := ⟨rfl, rfl, rfl, by decide +kernel, rfl, by decide +kernel, by decide +kernel⟩
abbrev st_law_mixed : Stmt := topS 36
def N_law_mixed : List Str := ["source", "things", "rest", "lap"]
theorem sc_law_mixed : FnScope N_law_mixed ["source", "things"] (defScope st_law_mixed) := ⟨rfl, rfl, rfl, by decide +kernel, rfl, by decide +kernel, by decide +kernel⟩
abbrev st_law_window : Stmt := topS 37
def N_law_window : List Str := ["source", "n", "far", "rests", "rest"]
theorem sc_law_window : FnScope N_law_window ["source", "n", "far"] (defScope st_law_window) := ⟨rfl, rfl, rfl, by decide +kernel, rfl, by decide +kernel, by decide +kernel⟩
abbrev st_is_long : Stmt := topS 8
def N_is_long : List Str := ["number"]
theorem sc_is_long : FnScope N_is_long ["number"] (defScope st_is_long) := ⟨rfl, rfl, rfl, by decide +kernel, rfl, by decide +kernel, by decide +kernel⟩
abbrev st_not_long : Stmt := topS 9
def N_not_long : List Str := ["numbers", "number"]
theorem sc_not_long : FnScope N_not_long ["numbers"] (defScope st_not_long) := ⟨rfl, rfl, rfl, by decide +kernel, rfl, by decide +kernel, by decide +kernel⟩
abbrev st_window_made : Stmt := topS 15
def N_window_made : List Str := ["window"]
theorem sc_window_made : FnScope N_window_made ["window"] (defScope st_window_made) := ⟨rfl, rfl, rfl, by decide +kernel, rfl, by decide +kernel, by decide +kernel⟩
abbrev st_place_back : Stmt := topS 17
def N_place_back : List Str := ["window", "place", "many", "rest", "number"]
theorem sc_place_back : FnScope N_place_back ["window", "place"] (defScope st_place_back) := ⟨rfl, rfl, rfl, by decide +kernel, rfl, by decide +kernel, by decide +kernel⟩
abbrev st_window_undone : Stmt := topS 19
def N_window_undone : List Str := ["window", "place"]
theorem sc_window_undone : FnScope N_window_undone ["window"] (defScope st_window_undone) := ⟨rfl, rfl, rfl, by decide +kernel, rfl, by decide +kernel, by decide +kernel⟩
abbrev st_place_at : Stmt := topS 16
def N_place_at : List Str := ["window", "place", "many"]
theorem sc_place_at : FnScope N_place_at ["window", "place"] (defScope st_place_at) := ⟨rfl, rfl, rfl, by decide +kernel, rfl, by decide +kernel, by decide +kernel⟩
abbrev st_round_from : Stmt := topS 21
def N_round_from : List Str := ["window", "rest", "many", "found", "here"]
theorem sc_round_from : FnScope N_round_from ["window", "rest"] (defScope st_round_from) := ⟨rfl, rfl, rfl, by decide +kernel, rfl, by decide +kernel, by decide +kernel⟩
abbrev st_rounds_told : Stmt := topS 22
def N_rounds_told : List Str := ["window", "found", "met", "rest", "late", "one"]
theorem sc_rounds_told : FnScope N_rounds_told ["window"] (defScope st_rounds_told) := ⟨rfl, rfl, rfl, by decide +kernel, rfl, by decide +kernel, by decide +kernel⟩
abbrev st_least_common : Stmt := topS 12
def N_least_common : List Str := ["one", "other"]
theorem sc_least_common : FnScope N_least_common ["one", "other"] (defScope st_least_common) := ⟨rfl, rfl, rfl, by decide +kernel, rfl, by decide +kernel, by decide +kernel⟩
abbrev st_cells_common : Stmt := topS 27
def N_cells_common : List Str := ["window", "found", "rests", "drift"]
theorem sc_cells_common : FnScope N_cells_common ["window"] (defScope st_cells_common) := ⟨rfl, rfl, rfl, by decide +kernel, rfl, by decide +kernel, by decide +kernel⟩
abbrev st_divisors_told : Stmt := topS 13
def N_divisors_told : List Str := ["number", "late"]
theorem sc_divisors_told : FnScope N_divisors_told ["number"] (defScope st_divisors_told) := ⟨rfl, rfl, rfl, by decide +kernel, rfl, by decide +kernel, by decide +kernel⟩
abbrev st_line_sum : Stmt := topS 11
def N_line_sum : List Str := ["one", "other"]
theorem sc_line_sum : FnScope N_line_sum ["one", "other"] (defScope st_line_sum) := ⟨rfl, rfl, rfl, by decide +kernel, rfl, by decide +kernel, by decide +kernel⟩
abbrev st_lines_whole : Stmt := topS 29
def N_lines_whole : List Str := ["lines", "by", "rest", "line"]
theorem sc_lines_whole : FnScope N_lines_whole ["lines", "by", "rest"] (defScope st_lines_whole) := ⟨rfl, rfl, rfl, by decide +kernel, rfl, by decide +kernel, by decide +kernel⟩
abbrev st_least_rows : Stmt := topS 30
def N_least_rows : List Str := ["rows", "many", "whole", "by", "lines", "rest", "line"]
theorem sc_least_rows : FnScope N_least_rows ["rows"] (defScope st_least_rows) := ⟨rfl, rfl, rfl, by decide +kernel, rfl, by decide +kernel, by decide +kernel⟩
abbrev st_round_places : Stmt := topS 24
def N_round_places : List Str := ["window", "rests", "found", "lap"]
theorem sc_round_places : FnScope N_round_places ["window", "rests"] (defScope st_round_places) := ⟨rfl, rfl, rfl, by decide +kernel, rfl, by decide +kernel, by decide +kernel⟩
abbrev st_place_along : Stmt := topS 25
def N_place_along : List Str := ["places", "many", "step", "number", "lap", "place"]
theorem sc_place_along : FnScope N_place_along ["places", "many", "step", "number"] (defScope st_place_along) := ⟨rfl, rfl, rfl, by decide +kernel, rfl, by decide +kernel, by decide +kernel⟩
abbrev st_row_lines : Stmt := topS 28
def N_row_lines : List Str := ["window", "rest", "by", "many", "found", "rests", "drift", "places", "step", "place", "one", "goal"]
theorem sc_row_lines : FnScope N_row_lines ["window", "rest", "by"] (defScope st_row_lines) := ⟨rfl, rfl, rfl, by decide +kernel, rfl, by decide +kernel, by decide +kernel⟩
abbrev st_powers_told : Stmt := topS 31
def N_powers_told : List Str := ["window", "by", "least", "rows", "lines", "line", "rest"]
theorem sc_powers_told : FnScope N_powers_told ["window"] (defScope st_powers_told) := ⟨rfl, rfl, rfl, by decide +kernel, rfl, by decide +kernel, by decide +kernel⟩
abbrev st_law_of : Stmt := topS 35
def N_law_of : List Str := ["source", "some"]
theorem sc_law_of : FnScope N_law_of ["source", "some"] (defScope st_law_of) := ⟨rfl, rfl, rfl, by decide +kernel, rfl, by decide +kernel, by decide +kernel⟩
abbrev st_law_far : Stmt := topS 41
def N_law_far : List Str := ["source", "far"]
theorem sc_law_far : FnScope N_law_far ["source"] (defScope st_law_far) := ⟨rfl, rfl, rfl, by decide +kernel, rfl, by decide +kernel, by decide +kernel⟩
abbrev st_law_at : Stmt := topS 38
def N_law_at : List Str := ["window", "x", "n", "rest"]
theorem sc_law_at : FnScope N_law_at ["window", "x"] (defScope st_law_at) := ⟨rfl, rfl, rfl, by decide +kernel, rfl, by decide +kernel, by decide +kernel⟩
abbrev st_power_told : Stmt := topS 26
def N_power_told : List Str := ["window", "number", "many", "found", "rests", "drift", "places", "place", "rest", "goal"]
theorem sc_power_told : FnScope N_power_told ["window", "number"] (defScope st_power_told) := ⟨rfl, rfl, rfl, by decide +kernel, rfl, by decide +kernel, by decide +kernel⟩
abbrev st_law_on : Stmt := topS 39
def N_law_on : List Str := ["one", "other", "x"]
theorem sc_law_on : FnScope N_law_on ["one", "other"] (defScope st_law_on) := ⟨rfl, rfl, rfl, by decide +kernel, rfl, by decide +kernel, by decide +kernel⟩
abbrev st_law_undone : Stmt := topS 40
def N_law_undone : List Str := ["window", "n", "found", "x", "y", "rest"]
theorem sc_law_undone : FnScope N_law_undone ["window"] (defScope st_law_undone) := ⟨rfl, rfl, rfl, by decide +kernel, rfl, by decide +kernel, by decide +kernel⟩
abbrev st_law_led : Stmt := topS 42
def N_law_led : List Str := ["window", "x", "times", "n", "line", "lap", "many", "moved", "left"]
theorem sc_law_led : FnScope N_law_led ["window", "x", "times"] (defScope st_law_led) := ⟨rfl, rfl, rfl, by decide +kernel, rfl, by decide +kernel, by decide +kernel⟩
abbrev st_window_on : Stmt := topS 18
def N_window_on : List Str := ["one", "other", "number"]
theorem sc_window_on : FnScope N_window_on ["one", "other"] (defScope st_window_on) := ⟨rfl, rfl, rfl, by decide +kernel, rfl, by decide +kernel, by decide +kernel⟩
abbrev st_line_at : Stmt := topS 10
def N_line_at : List Str := ["line", "t"]
theorem sc_line_at : FnScope N_line_at ["line", "t"] (defScope st_line_at) := ⟨rfl, rfl, rfl, by decide +kernel, rfl, by decide +kernel, by decide +kernel⟩
abbrev st_law : Stmt := topS 43
def N_law : List Str := ["script", "source", "n", "window", "back", "lap", "x", "due", "by", "rows", "times", "told", "rest", "part", "here", "row", "line"]
theorem sc_law : FnScope N_law ["script"] (defScope st_law) := ⟨rfl, rfl, rfl, by decide +kernel, rfl, by decide +kernel, by decide +kernel⟩
/-! ### the names of the module -/
structure ZZ (mg : Str → Option Value) : Prop where
  z_len : mg "len" = none
  z_max : mg "max" = none
  z_int : mg "int" = none
  z_range : mg "range" = none
  z_list : mg "list" = none
  z_tuple : mg "tuple" = none
  z_abs : mg "abs" = none
  z_str : mg "str" = none
  z_MOST_FIGURES : ∃ t, mg "MOST_FIGURES" = some (.int 300 t)
  z_SURE_BITS : ∃ t, mg "SURE_BITS" = some (.int 997 t)
  z_any : mg "any" = none
  z_dict : mg "dict" = none
  z_gcd : mg "gcd" = some (.builtin "math.gcd")
  z_enumerate : mg "enumerate" = none
  z_all : mg "all" = none
  z_repr : mg "repr" = none
/-! ### what the defs compute -/
def b_law_window : SF Src := (fSeq (fAsg 3 (fCallL 2 m_law_mixed (fATok 0 (fACons (fLstRg (fRg1 (fVar 1))) fANil)))) (fRet (fCall tupleD (fPCons (fLc (fSeqI (fVar 3)) (gfName 4) fYes (fBin addD (fVar 4) (fBin mulD (fBin mulD (fVar 1) (fVar 2)) (fBin subD (fCallL 2 m_law_pick (fATok 0 (fACons (fC (.int 5)) fANil))) (fC (.int 2))))) [4]) fPNil))))
def m_law_window : MF := fnD 5 b_law_window
def b_law_far : SF Src := (fSeq (fAsg 1 (fCallL 2 m_law_of (fATok 0 (fACons (fLst (fACons (fC (.int 0)) (fACons (fBin powD (fC (.int 10)) (fC (.int 9))) (fACons (fCall intD (fPCons (fBin mulS (fC (.str "9")) (fC (.int 40))) fPNil)) (fACons (fCall intD (fPCons (fBin addD (fC (.str "1")) (fBin mulS (fC (.str "0")) (fC (.int 200)))) fPNil)) (fACons (fCall intD (fPCons (fBin mulS (fC (.str "7")) (fC (.int 280))) fPNil)) fANil)))))) fANil)))) (fRet (fBin mulD (fCallL 2 m_law_of (fATok 0 (fACons (fLst (fACons (fC (.int 1)) (fACons (fUn negD (fC (.int 1))) fANil))) fANil))) (fBin addD (fVar 1) (fCallL 2 m_law_pick (fATok 0 (fACons (fC (.int 1000)) fANil)))))))
def m_law_far : MF := fnD 2 b_law_far
def b_law_at : SF Src := (fSeq (fAsg 2 (fCall lenD (fPCons (fVar 0) fPNil))) (fSeq (fAsg 3 (fBin modD (fCall intD (fPCons (fVar 1) fPNil)) (fVar 2))) (fRet (fBin subD (fBin addD (fBin ixQ (fVar 0) (fVar 3)) (fVar 1)) (fVar 3)))))
def m_law_at : MF := fnD 4 b_law_at
def b_law_on : SF Src := (fRet (fCall tupleD (fPCons (fLc (fTupI (fVar 1)) (gfName 2) fYes (fCallL 2 m_law_at (fACons (fVar 0) (fACons (fVar 2) fANil))) [2]) fPNil)))
def m_law_on : MF := fnD 3 b_law_on
def b_law_undone : SF Src := (fSeq (fPar [1, 2] (fMV (fCall lenD (fPCons (fVar 0) fPNil)) (fMO fDNew fMNil))) (fSeq (fFor (fEnumT (fVar 0)) (gfTup 2 (gfCons (gfName 3) (gfCons (gfName 4) gfNil))) (fSeq (fAsg 5 (fBin modD (fCall intD (fPCons (fVar 4) fPNil)) (fVar 1))) (fPut 2 (fVar 5) (fBin subD (fVar 3) (fBin subD (fVar 4) (fVar 5)))))) (fRet (fCall tupleD (fPCons (fLc (fR1 (fVar 1)) (gfName 5) fYes (fBin dgetD (fVarP 2) (fVar 5)) [5]) fPNil)))))
def m_law_undone : MF := fnD 6 b_law_undone
def b_law_led : SF Src := (fSeq (fPar [3, 4] (fMV (fCall lenD (fPCons (fVar 0) fPNil)) (fMO (fLst (fACons (fVar 1) fANil)) fMNil))) (fSeq (fFor (fR1 (fCall lenD (fPCons (fVar 0) fPNil))) (gfName 5) (fIfS (fOr (fB (fBin eqV (fCall lenD (fPCons (fVarP 4) fPNil)) (fC (.int 1)))) (fB (fBin neV (fBin modD (fCall intD (fPCons (fBin subD (fBin ixQ (fVarP 4) (fUn negD (fC (.int 1)))) (fVar 1)) fPNil)) (fVar 3)) (fC (.int 0))))) (fApp 4 (fCallL 2 m_law_at (fACons (fVar 0) (fACons (fBin ixQ (fVarP 4) (fUn negD (fC (.int 1)))) fANil)))) fNext)) (fSeq (fPar [6, 7] (fMV (fBin subD (fCall lenD (fPCons (fVarP 4) fPNil)) (fC (.int 1))) (fMV (fBin subD (fBin ixQ (fVarP 4) (fUn negD (fC (.int 1)))) (fVar 1)) fMNil))) (fSeq (fAsg 8 (fBin modD (fCall intD (fPCons (fVar 2) fPNil)) (fVar 6))) (fRet (fBin addD (fBin ixQ (fVarP 4) (fVar 8)) (fBin mulD (fVar 7) (fBin fdivD (fBin subD (fVar 2) (fVar 8)) (fVar 6)))))))))
def m_law_led : MF := fnD 9 b_law_led
def b_law : SF Src := (fSeq (fAsg 2 (fBin addD (fC (.int 1)) (fCallL 2 m_law_pick (fATok 1 (fACons (fC (.int 8)) fANil))))) (fSeq (fAsg 3 (fCallL 3 m_law_window (fATok 1 (fACons (fVar 2) (fACons (fCallL 2 m_law_of (fATok 1 (fACons (fLst (fACons (fC (.int 1)) (fACons (fC (.int 1)) (fACons (fBin powD (fC (.int 10)) (fC (.int 9))) fANil)))) fANil))) fANil))))) (fSeq (fAsg 4 (fCallL 1 m_window_undone (fACons (fVar 3) fANil))) (fSeq (fIfS (fB (fBin neV (fCall reprD (fPCons (fVar 4) fPNil)) (fCall reprD (fPCons (fCallL 1 m_law_undone (fACons (fVar 3) fANil)) fPNil)))) (fRet (fC (.bool false))) fNext) (fSeq (fFor (fR1 (fC (.int 3))) (gfName 5) (fSeq (fAsg 6 (fCallL 1 m_law_far (fATok 1 fANil))) (fSeq (fAsg 7 (fCallL 2 m_law_at (fACons (fVar 3) (fACons (fVar 6) fANil)))) (fSeq (fIfS (fOr (fB (fBin neV (fCallL 2 m_place_at (fACons (fVar 3) (fACons (fVar 6) fANil))) (fVar 7))) (fOr (fB (fBin neV (fCallL 2 m_place_back (fACons (fVar 3) (fACons (fVar 7) fANil))) (fVar 6))) (fB (fBin neV (fCallL 2 m_place_at (fACons (fVar 4) (fACons (fVar 7) fANil))) (fVar 6))))) (fRet (fC (.bool false))) fNext) (fIfS (fOr (fB (fBin neV (fCallL 2 m_place_back (fACons (fVar 3) (fACons (fVar 6) fANil))) (fCallL 2 m_law_at (fACons (fVar 4) (fACons (fVar 6) fANil))))) (fB (fBin neV (fCallL 1 m_not_long (fACons (fTup (fACons (fVar 7) fANil)) fANil)) (fTup (fACons (fVar 7) fANil))))) (fRet (fC (.bool false))) fNext))))) (fSeq (fUnp (fCallL 1 m_powers_told (fACons (fVar 3) fANil)) (gfTup 2 (gfCons (gfName 8) (gfCons (gfName 9) gfNil)))) (fSeq (fIfS (fOr (fB (fBin neV (fCall lenD (fPCons (fVar 9) fPNil)) (fVar 8))) (fB (fBin neV (fLc (fTupI (fVar 9)) (gfName 15) (fB (fBin neV (fCall lenD (fPCons (fVar 15) fPNil)) (fVar 2))) (fVar 15) [15]) (fLst fANil)))) (fRet (fC (.bool false))) fNext) (fSeq (fFor (fR1 (fC (.int 4))) (gfName 5) (fSeq (fAsg 10 (fIf (fB (fBin (cmpI gtI) (fVar 5) (fC (.int 0)))) (fCallL 1 m_law_far (fATok 1 fANil)) (fBin subD (fCallL 2 m_law_pick (fATok 1 (fACons (fC (.int 30)) fANil))) (fC (.int 15))))) (fSeq (fAsg 7 (fCall tupleD (fPCons (fLc (fR1 (fVar 2)) (gfName 6) fYes (fCallL 3 m_law_led (fACons (fVar 3) (fACons (fVar 6) (fACons (fVar 10) fANil)))) [6]) fPNil))) (fSeq (fAsg 11 (fCallL 2 m_power_told (fACons (fVar 3) (fACons (fVar 10) fANil)))) (fSeq (fIfS (fB (fBin neV (fCall reprD (fPCons (fVar 11) fPNil)) (fCall reprD (fPCons (fVar 7) fPNil)))) (fRet (fC (.bool false))) fNext) (fSeq (fAsg 12 (fBin modD (fCall intD (fPCons (fVar 10) fPNil)) (fVar 8))) (fSeq (fIfS (fB (fBin neV (fCall tupleD (fPCons (fLc (fTupI (fBin ixQ (fVar 9) (fVar 12))) (gfName 16) fYes (fCallL 2 m_line_at (fACons (fVar 16) (fACons (fBin fdivD (fBin subD (fVar 10) (fVar 12)) (fVar 8)) fANil))) [16]) fPNil)) (fVar 7))) (fRet (fC (.bool false))) fNext) (fSeq (fAsg 6 (fCallL 1 m_law_far (fATok 1 fANil))) (fSeq (fIfS (fOr (fB (fBin neV (fCallL 2 m_place_at (fACons (fVar 11) (fACons (fVar 6) fANil))) (fCallL 3 m_law_led (fACons (fVar 3) (fACons (fVar 6) (fACons (fVar 10) fANil)))))) (fB (fBin neV (fCallL 2 m_place_back (fACons (fVar 11) (fACons (fCallL 2 m_place_at (fACons (fVar 11) (fACons (fVar 6) fANil))) fANil))) (fVar 6)))) (fRet (fC (.bool false))) fNext) (fSeq (fAsg 13 (fBin subD (fCallL 2 m_law_pick (fATok 1 (fACons (fC (.int 9)) fANil))) (fC (.int 4)))) (fIfS (fB (fBin neV (fCall reprD (fPCons (fCallL 2 m_window_on (fACons (fCallL 2 m_power_told (fACons (fVar 3) (fACons (fVar 13) fANil))) (fACons (fCallL 2 m_power_told (fACons (fVar 3) (fACons (fBin subD (fVar 10) (fVar 13)) fANil))) fANil))) fPNil)) (fCall reprD (fPCons (fVar 11) fPNil)))) (fRet (fC (.bool false))) fNext))))))))))) (fSeq (fAsg 14 (fTupRg (fRg1 (fVar 2)))) (fSeq (fFor (fR1 (fC (.int 13))) (gfName 10) (fSeq (fIfS (fOr (fB (fBin neV (fCall reprD (fPCons (fCallL 2 m_power_told (fACons (fVar 3) (fACons (fVar 10) fANil))) fPNil)) (fCall reprD (fPCons (fVar 14) fPNil)))) (fB (fBin neV (fCall reprD (fPCons (fCallL 2 m_power_told (fACons (fVar 4) (fACons (fVar 10) fANil))) fPNil)) (fCall reprD (fPCons (fCallL 1 m_law_undone (fACons (fVar 14) fANil)) fPNil))))) (fRet (fC (.bool false))) fNext) (fAsg 14 (fCallL 2 m_law_on (fACons (fVar 3) (fACons (fVar 14) fANil)))))) (fRet (fC (.bool true)))))))))))))
end K67

set_option exponentiation.threshold 1000
namespace K67
open PySem L2 DL Mv
section
variable {w : List Int}
theorem law_at_eq (hw : 0 < w.length) (x : Int) (u : Src) : m_law_at [.d (tI w), .d (.int x)] u = .ok (.int (at_ w x)) u := by
  have h := md_lt x hw
  have e := ixQ_tup (ds := w.map PyData.int) (i := x % w.length) h.1 (get_tI (by omega))
  have hw' : (0 : Int) < (w.length : Int) := by omega
  simp [m_law_at, b_law_at, tI, modD_int hw', e, at_]
theorem law_on_eq (hw : 0 < w.length) {v : List Int} (hl : v.length ≤ 1000) (u : Src) : m_law_on [.d (tI w), .d (tI v)] u = .ok (tI (v.map (at_ w))) u := by
  have e := lc_all (h := PyData.int) (k := fun x : Int => PyData.int (at_ w x)) (fi := fTupI (fVar 1)) (fg := gfName 2) (fe := fCallL 2 m_law_at (fACons (fVar 0) (fACons (fVar 2) fANil))) (vs := [2]) (env := [.val (tI w), .val (tI v), .non]) (u := u) v rfl (line_of (by omega))
    (fun x hx => ⟨[.val (tI w), .val (tI v), .val (.int x)], rfl, callL_ok (as := [.d (tI w), .d (.int x)]) rfl rfl (law_at_eq hw x u)⟩)
  have ht : tI (v.map (at_ w)) = .tuple (v.map fun x : Int => PyData.int (at_ w x)) := by
    unfold tI
    rw [List.map_map]
    rfl
  have hc : fCall tupleD (fPCons (fLc (fTupI (fVar 1)) (gfName 2) fYes (fCallL 2 m_law_at (fACons (fVar 0) (fACons (fVar 2) fANil))) [2]) fPNil) [Slot.val (tI w), .val (tI v), .non] u = .ok (tI (v.map (at_ w))) u := by
    rw [fCall_app, fPCons_app, e, ht]
    rfl
  exact fnD_rt (ret_ok hc)
theorem bk_rest (W : Win w) (x : Nat) (hx : x < w.length) : (x : Int) - (w.getD x 0 - w.getD x 0 % w.length) = bk w (w.getD x 0 % w.length) := by
  apply W.at_inj
  rw [W.at_bk]
  have hn := W.n0
  have e := Int.emod_add_mul_ediv (w.getD x 0) w.length
  rw [show (x : Int) - (w.getD x 0 - w.getD x 0 % w.length) = x + w.length * -(w.getD x 0 / w.length) by rw [Int.mul_neg]; omega, at_add, at_div, Int.emod_eq_of_lt (by omega) (by omega), Int.ediv_eq_zero_of_lt (by omega) (by omega), Int.toNat_natCast, Int.mul_neg]
  omega
theorem law_undone_eq (W : Win w) (hl : w.length ≤ 1000) (u : Src) : m_law_undone [.d (tI w)] u = .ok (tI ((List.range w.length).map fun x : Nat => bk w x)) u := by
  have hn := W.n0
  obtain ⟨n, hnn⟩ : ∃ n : Int, n = w.length := ⟨_, rfl⟩
  have hmod : ∀ x, modD (.int x) (.int n) = some (.int (x % n)) := fun x => modD_int (by omega)
  obtain ⟨env', u', h1, h2⟩ := for_run (fi := fEnumT (fVar 0)) (fg := gfTup 2 (gfCons (gfName 3) (gfCons (gfName 4) gfNil))) (fb := (fSeq (fAsg 5 (fBin modD (fCall intD (fPCons (fVar 4) fPNil)) (fVar 1))) (fPut 2 (fVar 5) (fBin subD (fVar 3) (fBin subD (fVar 4) (fVar 5))))))
    (env := [.val (tI w), .val (.int n), .own (.dict []), .non, .non, .non]) (u := u) (ds := enumD (w.map PyData.int))
    (fun k env u' => u' = u ∧ ∃ (des : List (D × D)) (x3 x4 x5 : Slot), env = [.val (tI w), .val (.int n), .own (.dict des), x3, x4, x5] ∧ des.length ≤ k ∧
      DicI des fun y => if ∃ i : Nat, i < k ∧ w.getD i 0 % n = y then some (.int (bk w y)) else none)
    (by simp [tI])
    (fun k d env u' hk hi => by
      obtain ⟨rfl, des, x3, x4, x5, rfl, hlen, hd⟩ := hi
      obtain ⟨hk', rfl⟩ := enum_ints _ hk
      obtain ⟨v, hv⟩ : ∃ v, v = w.getD k 0 := ⟨_, rfl⟩
      rw [← hv]
      have hval := bk_rest W k hk'
      rw [← hv, ← hnn] at hval
      have hs := hd.set (v % n) (.int (bk w (v % n))) (by omega)
      have hpl := put_len des (.int (v % n)) (.int (bk w (v % n)))
      refine ⟨[.val (tI w), .val (.int n), .own (.dict des), .val (.int k), .val (.int v), x5], _, u', by simp, ?_, rfl, putD des (.int (v % n)) (.int (bk w (v % n))), .val (.int k), .val (.int v), .val (.int (v % n)), rfl, by omega, ?_⟩
      · simp [hmod, hval, hs]
      · have hp := hd.put (v % n) (.int (bk w (v % n)))
        refine ⟨hp.keys, fun y => ?_⟩
        rw [hp.get y]
        by_cases e : v % n = y
        · rw [if_pos e, if_pos ⟨k, by omega, by rw [← hv]; exact e⟩, e]
        · rw [if_neg e]
          by_cases a : ∃ i : Nat, i < k ∧ w.getD i 0 % n = y
          · obtain ⟨i, hi, he⟩ := a
            rw [if_pos ⟨i, hi, he⟩, if_pos ⟨i, by omega, he⟩]
          · rw [if_neg a, if_neg]
            rintro ⟨i, hi, he⟩
            by_cases hik : i = k
            · subst hik
              exact e (by rw [hv]; exact he)
            · exact a ⟨i, by omega, he⟩)
    ⟨rfl, [], .non, .non, .non, rfl, by simp, by
      refine ⟨DicI.nil.keys, fun y => ?_⟩
      rw [if_neg]
      · rfl
      · rintro ⟨i, hi, _⟩
        exact absurd hi (Nat.not_lt_zero _)⟩
  obtain ⟨rfl, des, x3, x4, x5, rfl, _, hd⟩ := h2
  rw [enumD_len, List.length_map] at hd
  have hlc := lc_all (h := fun i : Nat => PyData.int i) (k := fun x : Nat => PyData.int (bk w x)) (fi := fR1 (fVar 1)) (fg := gfName 5) (fe := fBin dgetD (fVarP 2) (fVar 5)) (vs := [5])
    (env := [.val (tI w), .val (.int n), .own (.dict des), x3, x4, x5]) (u := u') (List.range w.length) (r1_eval (by rw [hnn]; rfl) (by omega)) (by rw [List.length_range]; exact line_of (by omega))
    (fun x hx => ⟨[.val (tI w), .val (.int n), .own (.dict des), x3, x4, .val (.int x)], rfl, by
      have hg := hd.dget (x : Int)
      rw [if_pos] at hg
      · simp [hg]
      · obtain ⟨i, hi, h⟩ := W.surj x
        refine ⟨i, hi, ?_⟩
        have h2 := Int.emod_eq_emod_iff_emod_sub_eq_zero.mpr h
        rw [hnn, h2]
        exact Int.emod_eq_of_lt (by omega) (by have := List.mem_range.mp hx; omega)⟩)
  have ht : tI ((List.range w.length).map fun x : Nat => bk w x) = .tuple ((List.range w.length).map fun x : Nat => PyData.int (bk w x)) := by
    unfold tI
    rw [List.map_map]
    rfl
  have hc : fCall tupleD (fPCons (fLc (fR1 (fVar 1)) (gfName 5) fYes (fBin dgetD (fVarP 2) (fVar 5)) [5]) fPNil) [.val (tI w), .val (.int n), .own (.dict des), x3, x4, x5] u' = .ok (tI ((List.range w.length).map fun x : Nat => bk w x)) u' := by
    rw [fCall_app, fPCons_app, hlc, ht]
    rfl
  have s1 : fPar [1, 2] (fMV (fCall lenD (fPCons (fVar 0) fPNil)) (fMO fDNew fMNil)) [Slot.val (tI w), .non, .non, .non, .non, .non] u' = .nx [.val (tI w), .val (.int n), .own (.dict []), .non, .non, .non] u' := by
    simp [hnn]
  exact fnD_rt ((seq_nx s1).trans ((seq_nx h1).trans (ret_ok hc)))
theorem law_led_eq (W : Win w) (hl : w.length ≤ 100) (x times : Int) (hm : mulOk (drift w x * w.length) (times / (cyc w x : Nat))) (u : Src) : m_law_led [.d (tI w), .d (.int x), .d (.int times)] u = .ok (.int (it w times x)) u := by
  have hn := W.n0
  obtain ⟨c1, c2, c3, c4⟩ := W.cyc_spec x
  obtain ⟨z, hz⟩ : ∃ z : Nat → Int, ∀ k, z k = it w k x := ⟨_, fun _ => rfl⟩
  obtain ⟨n, hnn⟩ : ∃ n : Int, n = w.length := ⟨_, rfl⟩
  obtain ⟨c, hc⟩ : ∃ c : Nat, c = cyc w x := ⟨_, rfl⟩
  have z0 : z 0 = x := by rw [hz]; rfl
  have zs : ∀ k, at_ w (z k) = z (k + 1) := fun k => by rw [hz, hz]; exact (W.it_succ (k : Int) x).symm
  have hmod : ∀ y, modD (.int y) (.int n) = some (.int (y % n)) := fun y => modD_int (by omega)
  have hlast : ∀ j : Nat, ixQ (.list ((List.range (j + 1)).map fun i : Nat => PyData.int (z i))) (.int (-1)) = some (.int (z j)) := fun j => ixQ_last (by simp [List.range_succ])
  rw [← hc] at c1 c2 c3 c4 hm
  obtain ⟨env', u', h1, h2⟩ := for_run (fi := fR1 (fCall lenD (fPCons (fVar 0) fPNil))) (fg := gfName 5) (fb := (fIfS (fOr (fB (fBin DL.eqV (fCall lenD (fPCons (fVarP 4) fPNil)) (fC (.int 1)))) (fB (fBin DL.neV (fBin modD (fCall intD (fPCons (fBin subD (fBin ixQ (fVarP 4) (fUn negD (fC (.int 1)))) (fVar 1)) fPNil)) (fVar 3)) (fC (.int 0))))) (fApp 4 (fCallL 2 m_law_at (fACons (fVar 0) (fACons (fBin ixQ (fVarP 4) (fUn negD (fC (.int 1)))) fANil)))) fNext))
    (env := [.val (tI w), .val (.int x), .val (.int times), .val (.int n), .own (.list [.int x]), .non, .non, .non, .non]) (u := u) (ds := (List.range w.length).map fun i => PyData.int (i : Nat))
    (fun k env u' => u' = u ∧ ∃ x5, env = [.val (tI w), .val (.int x), .val (.int times), .val (.int n), .own (.list ((List.range (min k c + 1)).map fun i : Nat => .int (z i))), x5, .non, .non, .non])
    (r1_eval (by simp) (by omega))
    (fun k d env u' hk hi => by
      obtain ⟨rfl, x5, rfl⟩ := hi
      have hlt : k < w.length := by
        have := (List.getElem?_eq_some_iff.mp hk).1
        simpa using this
      rw [List.getElem?_map, List.getElem?_range hlt] at hk
      cases hk
      obtain ⟨j, hj⟩ : ∃ j, j = min k c := ⟨_, rfl⟩
      rw [← hj]
      have hp := law_at_eq (w := w) W.pos (z j) u'
      rw [zs] at hp
      have hll : (j + 1 < line100) = True := eq_true (Nat.lt_of_lt_of_le (show j + 1 < 1002 by omega) (by decide))
      refine ⟨[.val (tI w), .val (.int x), .val (.int times), .val (.int n), .own (.list ((List.range (j + 1)).map fun i : Nat => .int (z i))), .val (.int k), .non, .non, .non], _, u', rfl, ?_, rfl, .val (.int k), rfl⟩
      by_cases hjc : j = c
      · -- it is back
        have e1 : ¬ ((j : Int) + 1 = 1) := by omega
        have e2 : (z j - x) % n = 0 := by rw [hz, hnn, hjc]; exact c3
        have e3 : min (k + 1) c = j := by omega
        rw [e3]
        simp [hlast, hmod, e1, e2]
      · have e3 : min (k + 1) c = j + 1 := by omega
        rw [e3]
        by_cases hj0 : j = 0
        · subst hj0
          have hl0 : ixQ (.list [.int (z 0)]) (.int (-1)) = some (.int (z 0)) := ixQ_last rfl
          have hll1 : (1 < line100) = True := eq_true (by decide)
          simp [hl0, hp, hll1, List.range_succ]
        · have e1 : ¬ ((j : Int) + 1 = 1) := by omega
          have e2 : ¬ (z j - x) % n = 0 := by rw [hz, hnn]; exact c4 j (by omega) (by omega)
          simp [hlast, hmod, e1, e2, hp, hll, List.range_succ (n := j + 1)])
    ⟨rfl, .non, by simp [z0]⟩
  obtain ⟨rfl, x5, rfl⟩ := h2
  rw [List.length_map, List.length_range] at h1
  have hmc : min w.length c = c := by omega
  rw [hmc] at h1
  have hcp : (0 : Int) < c := by omega
  have hmv : z c - x = drift w x * w.length := by
    rw [hz, hc, W.drift_eq, Int.mul_comm]
    omega
  have hmodc : modD (.int times) (.int c) = some (.int (times % c)) := modD_int hcp
  have hlt := Int.emod_lt_of_pos times hcp
  have hge := Int.emod_nonneg times (show (c : Int) ≠ 0 by omega)
  have hq : ixQ (.list ((List.range (c + 1)).map fun i : Nat => PyData.int (z i))) (.int (times % c)) = some (.int (z (times % c).toNat)) := by
    refine ixQ_list hge ?_
    rw [List.getElem?_map, List.getElem?_range (by omega)]
    rfl
  have hfd : fdivD (.int (times - times % c)) (.int c) = some (.int (times / c)) := by
    rw [fdivD_int hcp (by
      have : c.log2 < 9000 := Nat.lt_of_le_of_lt (Nat.log2_le_self _) (by omega)
      simpa using this)]
    have := Int.emod_add_mul_ediv times c
    rw [show times - times % c = c * (times / c) by omega, Int.mul_ediv_cancel_left _ (by omega)]
  have hml : mulD (.int (drift w x * w.length)) (.int (times / c)) = some (.int (drift w x * w.length * (times / c))) := mulD_int hm
  have hres : z (times % c).toNat + drift w x * w.length * (times / c) = it w times x := by
    rw [← W.along x times]
    unfold Gf
    rw [places_len, ← hc, show (places w x).getD (times % (c : Int)).toNat 0 = z (times % c).toNat by
      unfold places
      rw [getD_map_range (by omega), hz], Int.mul_comm (drift w x * w.length)]
  have hl1 : ((c : Int) + 1 - 1) = c := by omega
  have s1 : fPar [3, 4] (fMV (fCall lenD (fPCons (fVar 0) fPNil)) (fMO (fLst (fACons (fVar 1) fANil)) fMNil)) [Slot.val (tI w), .val (.int x), .val (.int times), .non, .non, .non, .non, .non, .non] u' = .nx [.val (tI w), .val (.int x), .val (.int times), .val (.int n), .own (.list [.int x]), .non, .non, .non, .non] u' := by
    simp [hnn]
  refine fnD_rt ((seq_nx s1).trans ((seq_nx h1).trans ?_))
  simp [hlast, hl1, hmv, hmodc, hq, hfd, hml, hres]
end
end K67

set_option exponentiation.threshold 1000
namespace DL
open PySem L2
theorem argsTok1 {i : Nat} {fe : EF Src D} {env : Env} {u u1 : Src} {d : D} (ht : env[i]? = some .tok) (h : fe env u = .ok d u1) : fATok i (fACons fe fANil) env u = .ok [.tok, .d d] u1 := by
  rw [fATok_app, ht]
  show Rs.bind (fACons fe fANil env u) _ = _
  rw [fACons_app, h, ok_bind, fANil_app, ok_bind, ok_bind]
theorem if_no {U : Type} {ft : EF U Bool} {f g : SF U} {env : Env} {u u1 : U} (h : ft env u = .ok false u1) : fIfS ft f g env u = g env u1 := by
  rw [fIfS_app, h, ok_after]
  exact if_neg Bool.false_ne_true
theorem or_no {U : Type} {fa fb : EF U Bool} {env : Env} {u u1 u2 : U} (h1 : fa env u = .ok false u1) (h2 : fb env u1 = .ok false u2) : fOr fa fb env u = .ok false u2 := by
  rw [fOr_app, h1, ok_bind, if_neg Bool.false_ne_true, h2]
theorem ne_no {fa fb : EF Src D} {env : Env} {u u1 u2 : Src} {a b : D} (ha : fa env u = .ok a u1) (hb : fb env u1 = .ok b u2) (h : DL.neV a b = some (.bool false)) : fB (fBin DL.neV fa fb) env u = .ok false u2 := by
  rw [fB_app, fBin_app, ha, ok_bind, hb, ok_bind, h]
  rfl
theorem call_one {f : List D → Option D} {fe : EF Src D} {env : Env} {u u1 : Src} {a d : D} (h : fe env u = .ok a u1) (hf : f [a] = some d) : fCall f (fPCons fe fPNil) env u = .ok d u1 := by
  rw [fCall_app, fPCons_app, h, ok_bind, fPNil_app, ok_bind, ok_bind, hf, some_lift]
theorem bin_ok {op : D → D → Option D} {fa fb : EF Src D} {env : Env} {u u1 u2 : Src} {a b d : D} (ha : fa env u = .ok a u1) (hb : fb env u1 = .ok b u2) (h : op a b = some d) : fBin op fa fb env u = .ok d u2 := by
  rw [fBin_app, ha, ok_bind, hb, ok_bind, h, some_lift]
theorem argsOne' {fe : EF Src D} {env : Env} {u u1 : Src} {d : D} (h : fe env u = .ok d u1) : fACons fe fANil env u = .ok [.d d] u1 := by
  rw [fACons_app, h, ok_bind, fANil_app, ok_bind]
theorem args2 {fa fb : EF Src D} {env : Env} {u u1 u2 : Src} {a b : D} (ha : fa env u = .ok a u1) (hb : fb env u1 = .ok b u2) : fACons fa (fACons fb fANil) env u = .ok [.d a, .d b] u2 := by
  rw [fACons_app, ha, ok_bind, argsOne' hb, ok_bind]
end DL

namespace K67
open PySem L2 DL Mv
def farL : List D := [.int 0, .int (10 ^ 9), .int (10 ^ 40 - 1), .int (10 ^ 200), .int ((10 ^ 280 - 1) / 9 * 7)]
theorem far_list (env : DL.Env) (u : Src) : fLst (fACons (fC (.int 0)) (fACons (fBin powD (fC (.int 10)) (fC (.int 9))) (fACons (fCall intD (fPCons (fBin mulS (fC (.str "9")) (fC (.int 40))) fPNil)) (fACons (fCall intD (fPCons (fBin addD (fC (.str "1")) (fBin mulS (fC (.str "0")) (fC (.int 200)))) fPNil)) (fACons (fCall intD (fPCons (fBin mulS (fC (.str "7")) (fC (.int 280))) fPNil)) fANil))))) env u = .ok (.list farL) u := by
  kernel_rfl
theorem law_far_spec {u : Src} (ok : SrcOk u) : ∃ (z : Int) (u' : Src), m_law_far [.tok] u = .ok (.int z) u' ∧ z.natAbs ≤ 10 ^ 281 ∧ SrcOk u' := by
  obtain ⟨d, u1, e1, hd, ok1⟩ := of_spec ok (ds := farL) (by decide) (by decide)
  obtain ⟨f, rfl, hf⟩ : ∃ f : Int, d = .int f ∧ f.natAbs ≤ 10 ^ 280 := by
    unfold farL at hd
    simp only [List.mem_cons, List.not_mem_nil, or_false] at hd
    rcases hd with h | h | h | h | h <;> exact ⟨_, h, by decide +kernel⟩
  obtain ⟨d2, u2, e2, hd2, ok2⟩ := of_spec ok1 (ds := [.int 1, .int (-1)]) (by decide) (by decide)
  obtain ⟨g, rfl, hg⟩ : ∃ g : Int, d2 = .int g ∧ g.natAbs = 1 := by
    simp only [List.mem_cons, List.not_mem_nil, or_false] at hd2
    rcases hd2 with h | h <;> exact ⟨_, h, by decide⟩
  obtain ⟨i, u3, e3, hi, ok3⟩ := pick_spec ok2 (many := 1000) (by decide) (by decide)
  refine ⟨g * (f + i), u3, ?_, ?_, ok3⟩
  · have s1 : fAsg 1 (fCallL 2 m_law_of (fATok 0 (fACons (fLst (fACons (fC (.int 0)) (fACons (fBin powD (fC (.int 10)) (fC (.int 9))) (fACons (fCall intD (fPCons (fBin mulS (fC (.str "9")) (fC (.int 40))) fPNil)) (fACons (fCall intD (fPCons (fBin addD (fC (.str "1")) (fBin mulS (fC (.str "0")) (fC (.int 200)))) fPNil)) (fACons (fCall intD (fPCons (fBin mulS (fC (.str "7")) (fC (.int 280))) fPNil)) fANil)))))) fANil))) [Slot.tok, .non] u = .nx [.tok, .val (.int f)] u1 :=
      asg_ok (callL_ok (argsTok1 rfl (far_list _ u)) rfl e1)
    have e4 : fCallL 2 m_law_of (fATok 0 (fACons (fLst (fACons (fC (.int 1)) (fACons (fUn negD (fC (.int 1))) fANil))) fANil)) [Slot.tok, .val (.int f)] u1 = .ok (.int g) u2 := callL_ok (argsTok1 (d := .list [.int 1, .int (-1)]) rfl rfl) rfl e2
    have e5 : fBin addD (fVar 1) (fCallL 2 m_law_pick (fATok 0 (fACons (fC (.int 1000)) fANil))) [Slot.tok, .val (.int f)] u2 = .ok (.int (f + i)) u3 := bin_ok (a := .int f) (b := .int i) rfl (callL_ok (argsTok1 (d := .int 1000) rfl rfl) rfl e3) rfl
    exact fnD_rt ((seq_nx s1).trans (ret_ok (bin_ok e4 e5 (mulD_int (.inl (by omega))))))
  · rw [Int.natAbs_mul, hg, Nat.one_mul]
    have h1 : 10 ^ 280 + 1000 ≤ 10 ^ 281 := by decide +kernel
    omega
theorem perm_map_inv {α β : Type} {f : α → β} {xs ys : List β} (p : xs.Perm ys) : ∀ l : List α, ys = l.map f → ∃ l' : List α, xs = List.map f l' ∧ l'.Perm l := by
  induction p with
  | nil => intro l h; exact ⟨[], rfl, by cases l with | nil => exact .nil | cons _ _ => cases h⟩
  | cons x p ih =>
    intro l h
    cases l with
    | nil => cases h
    | cons a l =>
      obtain ⟨h1, h2⟩ := List.cons.inj h
      obtain ⟨l', e, q⟩ := ih l h2
      exact ⟨a :: l', by rw [e, h1]; rfl, q.cons a⟩
  | swap x y l0 =>
    intro l h
    cases l with
    | nil => cases h
    | cons a l =>
      cases l with
      | nil => cases h
      | cons b l =>
        obtain ⟨h1, h2⟩ := List.cons.inj h
        obtain ⟨h3, h4⟩ := List.cons.inj h2
        exact ⟨b :: a :: l, by rw [h1, h3, h4]; rfl, .swap a b l⟩
  | trans p q ih1 ih2 =>
    intro l h
    obtain ⟨l1, e1, q1⟩ := ih2 l h
    obtain ⟨l2, e2, q2⟩ := ih1 l1 e1
    exact ⟨l2, e2, q2.trans q1⟩
theorem law_window_spec {u : Src} (ok : SrcOk u) {n : Nat} (h1 : 1 ≤ n) (h8 : n ≤ 8) {far : Int} (hf : far.natAbs ≤ 10 ^ 9) : ∃ (w : List Int) (u' : Src), m_law_window [.tok, .d (.int n), .d (.int far)] u = .ok (tI w) u' ∧ Win w ∧ w.length = n ∧ Bound w (10 ^ 12) ∧ SrcOk u' := by
  obtain ⟨xs, u1, e1, hp, ok1⟩ := mixed_spec ok (ds := (List.range n).map fun i : Nat => PyData.int i) (by simp; omega)
  obtain ⟨rests, rfl, hpr⟩ := perm_map_inv hp (List.range n) rfl
  have hlen : rests.length = n := by rw [hpr.length_eq, List.length_range]
  have s1 : fAsg 3 (fCallL 2 m_law_mixed (fATok 0 (fACons (fLstRg (fRg1 (fVar 1))) fANil))) [Slot.tok, .val (.int n), .val (.int far), .non, .non] u = .nx [.tok, .val (.int n), .val (.int far), .val (.list (rests.map fun i : Nat => PyData.int i)), .non] u1 :=
    asg_ok (callL_ok (argsTok1 rfl (fLstRg_eval rfl (by omega))) rfl e1)
  obtain ⟨ds, u2, e2, hdl, hR, ok2⟩ := lc_run (fg := gfName 4) (fe := fBin addD (fVar 4) (fBin mulD (fBin mulD (fVar 1) (fVar 2)) (fBin subD (fCallL 2 m_law_pick (fATok 0 (fACons (fC (.int 5)) fANil))) (fC (.int 2))))) (fi := fSeqI (fVar 3)) (vs := [4]) (env := [Slot.tok, .val (.int n), .val (.int far), .val (.list (rests.map fun i : Nat => PyData.int i)), .non]) (h := fun i : Nat => PyData.int i)
    SrcOk (fun (r : Nat) (d : D) => ∃ k : Int, k.natAbs ≤ 2 ∧ d = .int (r + n * (far * k))) rests (u := u1) rfl (line_of (by omega)) ok1
    (fun r hr u ok => by
      obtain ⟨i, u', e, hi, ok'⟩ := pick_spec ok (many := 5) (by decide) (by decide)
      refine ⟨[Slot.tok, .val (.int n), .val (.int far), .val (.list (rests.map fun i : Nat => PyData.int i)), .val (.int r)], .int (r + n * (far * ((i : Int) - 2))), u', rfl, ?_, ⟨(i : Int) - 2, by omega, rfl⟩, ok'⟩
      have m1 : mulD (.int n) (.int far) = some (.int (n * far)) := mulD_int (.inl (by omega))
      have m2 : mulD (.int (n * far)) (.int ((i : Int) - 2)) = some (.int (n * (far * ((i : Int) - 2)))) := by
        rw [mulD_int (.inr (.inl (by omega))), Int.mul_assoc]
      exact bin_ok (a := .int r) (b := .int (n * (far * ((i : Int) - 2)))) rfl (bin_ok (a := .int (n * far)) (b := .int ((i : Int) - 2)) (bin_ok (a := .int n) (b := .int far) rfl rfl m1) (bin_ok (a := .int i) (b := .int 2) (callL_ok (argsTok1 (d := .int 5) rfl rfl) rfl e) rfl rfl) m2) rfl)
  obtain ⟨w, hw⟩ : ∃ w : List Int, ds = w.map PyData.int := by
    have : ∀ ds : List D, (∀ d ∈ ds, ∃ z : Int, d = .int z) → ∃ w : List Int, ds = w.map PyData.int := by
      intro ds
      induction ds with
      | nil => intro _; exact ⟨[], rfl⟩
      | cons d ds ih =>
        intro h
        obtain ⟨z, rfl⟩ := h d List.mem_cons_self
        obtain ⟨w, rfl⟩ := ih fun e he => h e (List.mem_cons_of_mem _ he)
        exact ⟨z :: w, rfl⟩
    refine this ds fun d hd => ?_
    obtain ⟨i, hi⟩ := List.getElem?_of_mem hd
    have hil := (List.getElem?_eq_some_iff.mp hi).1
    obtain ⟨k, _, e⟩ := hR i (rests[i]'(by omega)) d (List.getElem?_eq_getElem _) hi
    exact ⟨_, e⟩
  subst hw
  rw [List.length_map] at hdl
  have hval : ∀ (i : Nat) (r : Nat) (z : Int), rests[i]? = some r → w[i]? = some z → ∃ k : Int, k.natAbs ≤ 2 ∧ z = r + n * (far * k) := fun i r z hr hz => by
    obtain ⟨k, hk, e⟩ := hR i r (.int z) hr (by rw [List.getElem?_map, hz]; rfl)
    exact ⟨k, hk, by injection e⟩
  obtain ⟨W, hwl⟩ := win_of (n := n) (by omega) hpr hdl fun i r z hr hz => by
    obtain ⟨k, _, e⟩ := hval i r z hr hz
    exact ⟨_, e⟩
  refine ⟨w, u2, ?_, W, hwl, fun i hi => ?_, ok2⟩
  · exact fnD_rt ((seq_nx s1).trans (ret_ok (call_one e2 rfl)))
  · obtain ⟨k, hk, e⟩ := hval i (rests[i]'(by omega)) w[i] (List.getElem?_eq_getElem _) (List.getElem?_eq_getElem hi)
    have hr : rests[i]'(by omega) < n := List.mem_range.mp (hpr.mem_iff.mp (List.getElem_mem _))
    rw [List.getD_eq_getElem?_getD, List.getElem?_eq_getElem hi, Option.getD_some, e]
    have b1 : (far * k).natAbs ≤ 10 ^ 9 * 2 := by rw [Int.natAbs_mul]; exact Nat.mul_le_mul hf hk
    have b2 : ((n : Int) * (far * k)).natAbs ≤ 8 * (10 ^ 9 * 2) := by rw [Int.natAbs_mul]; exact Nat.mul_le_mul (by omega) b1
    have b3 : 8 * (10 ^ 9 * 2) + 16 ≤ 10 ^ 12 := by decide
    omega
end K67

set_option exponentiation.threshold 1000
namespace K67
open PySem L2 DL Mv
section
variable {w : List Int}
theorem pw_neg (w : List Int) : ((List.range w.length).map fun x : Nat => bk w x) = pw w (-1) := rfl
theorem it_pw_neg (W : Win w) (t x : Int) : it (pw w (-1)) t x = it w (-t) x := by
  have := it_uniq (W.pw_win (-1)) (fun t => it w (-t) x) (fun t => by
    show it w (-(t + 1)) x = at_ (pw w (-1)) (it w (-t) x)
    rw [W.pw_at, ← W.it_add, show -(t + 1) = -1 + -t by omega]) t
  rw [show (-0 : Int) = 0 from rfl, it_zero] at this
  exact this.symm
theorem bk_pw (W : Win w) (t x : Int) : bk (pw w t) x = it w (-t) x := by
  apply (W.pw_win t).at_inj
  rw [(W.pw_win t).at_bk, W.pw_at, ← W.it_add, show t + -t = 0 by omega, it_zero]
theorem Bound.pw1 (W : Win w) {B : Nat} (hB : Bound w B) (k : Int) (hk : k.natAbs ≤ 1) : Bound (pw w k) B := by
  intro i hi
  rw [pw_len] at hi
  have h := W.it_bound hB k i
  unfold pw
  rw [getD_map_range hi]
  have : k.natAbs * B ≤ 1 * B := Nat.mul_le_mul_right B hk
  omega
theorem win_short (W : Win w) {B : Nat} (hB : Bound w B) (hB2 : B ≤ 10 ^ 15) {k x : Int} (hk : k.natAbs ≤ 10 ^ 282) (hx : x.natAbs ≤ 10 ^ 282) : Short (it w k x) := by
  have h1 := W.it_bound hB k x
  have h2 : k.natAbs * B ≤ 10 ^ 282 * 10 ^ 15 := Nat.mul_le_mul hk hB2
  have h3 : 10 ^ 282 * 10 ^ 15 + 10 ^ 282 < 10 ^ 300 := by decide +kernel
  unfold Short
  have h4 : (it w k x).natAbs ≤ (it w k x - x).natAbs + x.natAbs := by omega
  omega
theorem pw_short (W : Win w) (hl : w.length ≤ 8) {B : Nat} (hB : Bound w B) (hB2 : B ≤ 10 ^ 15) {k : Int} (hk : k.natAbs ≤ 10 ^ 282) : ∀ n ∈ pw w k, Short n := fun n hn => by
  obtain ⟨x, hx, e⟩ := List.mem_map.mp hn
  rw [← e]
  have hx := List.mem_range.mp hx
  refine win_short W hB hB2 hk ?_
  have : (8 : Nat) ≤ 10 ^ 282 := by decide +kernel
  omega
theorem repr_pw (W : Win w) (hl : w.length ≤ 8) {B : Nat} (hB : Bound w B) (hB2 : B ≤ 10 ^ 15) {k : Int} (hk : k.natAbs ≤ 10 ^ 282) : ∃ z, reprD [tI (pw w k)] = some (.str z) := ⟨_, repr_tI (pw_short W hl hB hB2 hk) (by rw [pw_len]; omega)⟩
/-- one repr against another of the same -/
theorem rep_no {fa fb : EF Src D} {env : DL.Env} {u : Src} {d : D} (ha : fa env u = .ok d u) (hb : fb env u = .ok d u) (h : ∃ z, reprD [d] = some (.str z)) : fB (fBin DL.neV (fCall reprD (fPCons fa fPNil)) (fCall reprD (fPCons fb fPNil))) env u = .ok false u := by
  obtain ⟨z, hz⟩ := h
  exact ne_no (call_one ha hz) (call_one hb hz) (neV_str z)
theorem int_no {fa fb : EF Src D} {env : DL.Env} {u : Src} {i : Int} (ha : fa env u = .ok (.int i) u) (hb : fb env u = .ok (.int i) u) : fB (fBin DL.neV fa fb) env u = .ok false u := ne_no ha hb (by
  rw [neV_int, decide_eq_true rfl]
  rfl)
theorem tI_no {fa fb : EF Src D} {env : DL.Env} {u : Src} {l : List Int} (ha : fa env u = .ok (tI l) u) (hb : fb env u = .ok (tI l) u) : fB (fBin DL.neV fa fb) env u = .ok false u := ne_no ha hb (by
  rw [neV_tI, decide_eq_true rfl]
  rfl)
theorem c1 {n : Nat} {m : MF} {fe : EF Src D} {env : DL.Env} {u : Src} {a d : D} (h : fe env u = .ok a u) (hn : 1 = n) (hm : m [.d a] u = .ok d u) : fCallL n m (fACons fe fANil) env u = .ok d u := callL_ok (argsOne' h) hn hm
theorem c2 {n : Nat} {m : MF} {fa fb : EF Src D} {env : DL.Env} {u : Src} {a b d : D} (ha : fa env u = .ok a u) (hb : fb env u = .ok b u) (hn : 2 = n) (hm : m [.d a, .d b] u = .ok d u) : fCallL n m (fACons fa (fACons fb fANil)) env u = .ok d u := callL_ok (args2 ha hb) hn hm
theorem c3 {n : Nat} {m : MF} {fa fb fc : EF Src D} {env : DL.Env} {u : Src} {a b c d : D} (ha : fa env u = .ok a u) (hb : fb env u = .ok b u) (hc : fc env u = .ok c u) (hn : 3 = n) (hm : m [.d a, .d b, .d c] u = .ok d u) : fCallL n m (fACons fa (fACons fb (fACons fc fANil))) env u = .ok d u := callL_ok (args3 ha hb hc) hn hm

/-- the first round of looks -/
def envA (w : List Int) (x5 x6 x7 x8 x9 x10 x11 x12 x13 x14 : Slot) : DL.Env := [.non, .tok, .val (.int w.length), .val (tI w), .val (tI (pw w (-1))), x5, x6, x7, x8, x9, x10, x11, x12, x13, x14, .non, .non]
theorem lap3 (W : Win w) (hl : w.length ≤ 8) (hB : Bound w (10 ^ 12)) {u : Src} (ok : SrcOk u) : ∃ (x5 x6 x7 : Slot) (u' : Src),
    (fFor (fR1 (fC (.int 3))) (gfName 5) (fSeq (fAsg 6 (fCallL 1 m_law_far (fATok 1 fANil))) (fSeq (fAsg 7 (fCallL 2 m_law_at (fACons (fVar 3) (fACons (fVar 6) fANil)))) (fSeq (fIfS (fOr (fB (fBin DL.neV (fCallL 2 m_place_at (fACons (fVar 3) (fACons (fVar 6) fANil))) (fVar 7))) (fOr (fB (fBin DL.neV (fCallL 2 m_place_back (fACons (fVar 3) (fACons (fVar 7) fANil))) (fVar 6))) (fB (fBin DL.neV (fCallL 2 m_place_at (fACons (fVar 4) (fACons (fVar 7) fANil))) (fVar 6))))) (fRet (fC (.bool false))) fNext) (fIfS (fOr (fB (fBin DL.neV (fCallL 2 m_place_back (fACons (fVar 3) (fACons (fVar 6) fANil))) (fCallL 2 m_law_at (fACons (fVar 4) (fACons (fVar 6) fANil))))) (fB (fBin DL.neV (fCallL 1 m_not_long (fACons (fTup (fACons (fVar 7) fANil)) fANil)) (fTup (fACons (fVar 7) fANil))))) (fRet (fC (.bool false))) fNext)))))
      (envA w .non .non .non .non .non .non .non .non .non .non) u = .nx (envA w x5 x6 x7 .non .non .non .non .non .non .non) u' ∧ SrcOk u' := by
  have Wb := W.pw_win (-1)
  have hpl : 0 < (pw w (-1)).length := Wb.pos
  obtain ⟨env', u', h1, x5, x6, x7, rfl, ok'⟩ := for_run (fi := fR1 (fC (.int 3))) (fg := gfName 5) (fb := (fSeq (fAsg 6 (fCallL 1 m_law_far (fATok 1 fANil))) (fSeq (fAsg 7 (fCallL 2 m_law_at (fACons (fVar 3) (fACons (fVar 6) fANil)))) (fSeq (fIfS (fOr (fB (fBin DL.neV (fCallL 2 m_place_at (fACons (fVar 3) (fACons (fVar 6) fANil))) (fVar 7))) (fOr (fB (fBin DL.neV (fCallL 2 m_place_back (fACons (fVar 3) (fACons (fVar 7) fANil))) (fVar 6))) (fB (fBin DL.neV (fCallL 2 m_place_at (fACons (fVar 4) (fACons (fVar 7) fANil))) (fVar 6))))) (fRet (fC (.bool false))) fNext) (fIfS (fOr (fB (fBin DL.neV (fCallL 2 m_place_back (fACons (fVar 3) (fACons (fVar 6) fANil))) (fCallL 2 m_law_at (fACons (fVar 4) (fACons (fVar 6) fANil))))) (fB (fBin DL.neV (fCallL 1 m_not_long (fACons (fTup (fACons (fVar 7) fANil)) fANil)) (fTup (fACons (fVar 7) fANil))))) (fRet (fC (.bool false))) fNext)))))
    (env := envA w .non .non .non .non .non .non .non .non .non .non) (u := u) (ds := (List.range 3).map fun i : Nat => PyData.int i)
    (fun k env u => ∃ (x5 x6 x7 : Slot), env = envA w x5 x6 x7 .non .non .non .non .non .non .non ∧ SrcOk u) (r1_eval (n := 3) rfl (by decide))
    (fun k d env u hk hi => by
      obtain ⟨x5, x6, x7, rfl, ok⟩ := hi
      obtain ⟨z, u1, e1, hz, ok1⟩ := law_far_spec ok
      have s1 : fAsg 6 (fCallL 1 m_law_far (fATok 1 fANil)) (envA w (.val d) x6 x7 .non .non .non .non .non .non .non) u = .nx (envA w (.val d) (.val (.int z)) x7 .non .non .non .non .non .non .non) u1 := asg_ok (callL_ok (as := [.tok]) rfl rfl e1)
      have s2 : fAsg 7 (fCallL 2 m_law_at (fACons (fVar 3) (fACons (fVar 6) fANil))) (envA w (.val d) (.val (.int z)) x7 .non .non .non .non .non .non .non) u1 = .nx (envA w (.val d) (.val (.int z)) (.val (.int (at_ w z))) .non .non .non .non .non .non .non) u1 := asg_ok (c2 rfl rfl rfl (law_at_eq W.pos z u1))
      have p1 := place_at_eq (w := w) W.pos z u1
      have p2 := place_back_eq W (by omega) (at_ w z) u1
      rw [W.bk_at] at p2
      have p3 := place_at_eq (w := pw w (-1)) hpl (at_ w z) u1
      rw [W.pw_at, W.it_neg, W.bk_at] at p3
      have p4 := place_back_eq W (by omega) z u1
      have p5 := law_at_eq (w := pw w (-1)) hpl z u1
      rw [W.pw_at, W.it_neg] at p5
      have hsh : Short (at_ w z) := by
        rw [← W.it_one]
        have : 10 ^ 281 ≤ 10 ^ 282 := by decide +kernel
        exact win_short W hB (by decide +kernel) (by decide +kernel) (by omega)
      have p6 := not_long_eq (ns := [at_ w z]) (fun n hn => by rw [List.mem_singleton] at hn; subst hn; exact hsh) (by simp) u1
      have t1 : fTup (fACons (fVar 7) fANil) (envA w (.val d) (.val (.int z)) (.val (.int (at_ w z))) .non .non .non .non .non .non .non) u1 = .ok (tI [at_ w z]) u1 := rfl
      refine ⟨envA w (.val d) x6 x7 .non .non .non .non .non .non .non, envA w (.val d) (.val (.int z)) (.val (.int (at_ w z))) .non .non .non .non .non .non .non, u1, rfl, ?_, _, _, _, rfl, ok1⟩
      refine (seq_nx s1).trans ((seq_nx s2).trans ((seq_nx ((if_no (or_no (int_no (c2 rfl rfl rfl p1) rfl) (or_no (int_no (c2 rfl rfl rfl p2) rfl) (int_no (c2 rfl rfl rfl p3) rfl)))).trans rfl)).trans ?_))
      exact (if_no (or_no (int_no (c2 rfl rfl rfl p4) (c2 rfl rfl rfl p5)) (tI_no (c1 t1 rfl p6) t1))).trans rfl)
    ⟨.non, .non, .non, rfl, ok⟩
  exact ⟨x5, x6, x7, u', h1, ok'⟩
end
end K67

set_option exponentiation.threshold 1000
namespace K67
open PySem L2 DL Mv
section
variable {w : List Int}
def envB (w : List Int) (b : Nat) (RR : D) (x5 x6 x7 x10 x11 x12 x13 : Slot) : DL.Env := [.non, .tok, .val (.int w.length), .val (tI w), .val (tI (pw w (-1))), x5, x6, x7, .val (.int b), .val RR, x10, x11, x12, x13, .non, .non, .non]
def bodyB : SF Src := (fSeq (fAsg 10 (fIf (fB (fBin (cmpI gtI) (fVar 5) (fC (.int 0)))) (fCallL 1 m_law_far (fATok 1 fANil)) (fBin subD (fCallL 2 m_law_pick (fATok 1 (fACons (fC (.int 30)) fANil))) (fC (.int 15))))) (fSeq (fAsg 7 (fCall tupleD (fPCons (fLc (fR1 (fVar 2)) (gfName 6) fYes (fCallL 3 m_law_led (fACons (fVar 3) (fACons (fVar 6) (fACons (fVar 10) fANil)))) [6]) fPNil))) (fSeq (fAsg 11 (fCallL 2 m_power_told (fACons (fVar 3) (fACons (fVar 10) fANil)))) (fSeq (fIfS (fB (fBin DL.neV (fCall reprD (fPCons (fVar 11) fPNil)) (fCall reprD (fPCons (fVar 7) fPNil)))) (fRet (fC (.bool false))) fNext) (fSeq (fAsg 12 (fBin modD (fCall intD (fPCons (fVar 10) fPNil)) (fVar 8))) (fSeq (fIfS (fB (fBin DL.neV (fCall tupleD (fPCons (fLc (fTupI (fBin ixQ (fVar 9) (fVar 12))) (gfName 16) fYes (fCallL 2 m_line_at (fACons (fVar 16) (fACons (fBin fdivD (fBin subD (fVar 10) (fVar 12)) (fVar 8)) fANil))) [16]) fPNil)) (fVar 7))) (fRet (fC (.bool false))) fNext) (fSeq (fAsg 6 (fCallL 1 m_law_far (fATok 1 fANil))) (fSeq (fIfS (fOr (fB (fBin DL.neV (fCallL 2 m_place_at (fACons (fVar 11) (fACons (fVar 6) fANil))) (fCallL 3 m_law_led (fACons (fVar 3) (fACons (fVar 6) (fACons (fVar 10) fANil)))))) (fB (fBin DL.neV (fCallL 2 m_place_back (fACons (fVar 11) (fACons (fCallL 2 m_place_at (fACons (fVar 11) (fACons (fVar 6) fANil))) fANil))) (fVar 6)))) (fRet (fC (.bool false))) fNext) (fSeq (fAsg 13 (fBin subD (fCallL 2 m_law_pick (fATok 1 (fACons (fC (.int 9)) fANil))) (fC (.int 4)))) (fIfS (fB (fBin DL.neV (fCall reprD (fPCons (fCallL 2 m_window_on (fACons (fCallL 2 m_power_told (fACons (fVar 3) (fACons (fVar 13) fANil))) (fACons (fCallL 2 m_power_told (fACons (fVar 3) (fACons (fBin subD (fVar 10) (fVar 13)) fANil))) fANil))) fPNil)) (fCall reprD (fPCons (fVar 11) fPNil)))) (fRet (fC (.bool false))) fNext))))))))))
theorem led_mul (W : Win w) (hl : w.length ≤ 8) (hB : Bound w (10 ^ 12)) (x times : Int) (ht : times.natAbs ≤ 10 ^ 282) : mulOk (drift w x * w.length) (times / (cyc w x : Nat)) := by
  have h1 := W.cyc_bound hB x
  have h2 : w.length * 10 ^ 12 ≤ 8 * 10 ^ 12 := Nat.mul_le_mul_right _ hl
  have h3 := div_abs (k := times) (m := cyc w x) (W.cyc_spec x).1
  have h4 : 10 ^ 282 < 10 ^ 400 := by decide +kernel
  have h5 : 8 * 10 ^ 12 < 10 ^ 400 := by decide +kernel
  exact mulOk_small (by omega) (by omega)
theorem tI_pw (w : List Int) (k : Int) : tI (pw w k) = .tuple ((List.range w.length).map fun x : Nat => PyData.int (it w k x)) := by
  unfold tI pw
  rw [List.map_map]
  rfl
theorem times_in {u : Src} (ok : SrcOk u) (w : List Int) (b : Nat) (RR : D) (k : Nat) (x6 x7 x10 x11 x12 x13 : Slot) : ∃ (t : Int) (u' : Src), (fIf (fB (fBin (cmpI gtI) (fVar 5) (fC (.int 0)))) (fCallL 1 m_law_far (fATok 1 fANil)) (fBin subD (fCallL 2 m_law_pick (fATok 1 (fACons (fC (.int 30)) fANil))) (fC (.int 15)))) (envB w b RR (.val (.int k)) x6 x7 x10 x11 x12 x13) u = .ok (.int t) u' ∧ t.natAbs ≤ 10 ^ 281 ∧ SrcOk u' := by
  have hg : fB (fBin (cmpI gtI) (fVar 5) (fC (.int 0))) (envB w b RR (.val (.int k)) x6 x7 x10 x11 x12 x13) u = .ok (gtI k 0) u := rfl
  by_cases h : 0 < k
  · obtain ⟨z, u', e, hz, ok'⟩ := law_far_spec ok
    refine ⟨z, u', ?_, hz, ok'⟩
    rw [fIf_app, hg, ok_bind, if_pos (show gtI k 0 = true from decide_eq_true (by omega))]
    exact callL_ok (as := [.tok]) rfl rfl e
  · obtain ⟨i, u', e, hi, ok'⟩ := pick_spec ok (many := 30) (by decide) (by decide)
    refine ⟨(i : Int) - 15, u', ?_, ?_, ok'⟩
    · rw [fIf_app, hg, ok_bind, if_neg (show ¬ gtI k 0 = true from fun z => by have := of_decide_eq_true z; omega)]
      exact bin_ok (a := .int i) (b := .int 15) (callL_ok (argsTok1 (d := .int 30) rfl rfl) rfl e) rfl rfl
    · have : 100 ≤ 10 ^ 281 := by decide +kernel
      omega
theorem lap4 (W : Win w) (hl : w.length ≤ 8) (hB : Bound w (10 ^ 12)) {b : Nat} (hb : 0 < b) (hmod : lcW w % b = 0) (hg : good w (lcW w) b = true) {RR : D} (hRR : RR = .tuple ((List.range b).map fun i => rowD (lrow w (lcW w) b i))) (x5 x6 x7 : Slot) {u : Src} (ok : SrcOk u) :
    ∃ (y5 y6 y7 y10 y11 y12 y13 : Slot) (u' : Src), fFor (fR1 (fC (.int 4))) (gfName 5) bodyB (envB w b RR x5 x6 x7 .non .non .non .non) u = .nx (envB w b RR y5 y6 y7 y10 y11 y12 y13) u' ∧ SrcOk u' := by
  have hn := W.n0
  obtain ⟨_, hM, hM2, _⟩ := W.lcW_spec hl
  have hB15 : (10 : Nat) ^ 12 ≤ 10 ^ 15 := by decide
  have t281 : (10 : Nat) ^ 281 + 100 ≤ 10 ^ 282 := by decide +kernel
  have hbM : b ≤ lcW w := Nat.le_of_dvd hM (Nat.dvd_of_mod_eq_zero hmod)
  obtain ⟨env', u', h1, y5, y6, y7, y10, y11, y12, y13, rfl, ok'⟩ := for_run (fi := fR1 (fC (.int 4))) (fg := gfName 5) (fb := bodyB) (env := envB w b RR x5 x6 x7 .non .non .non .non) (u := u) (ds := (List.range 4).map fun i : Nat => PyData.int i)
    (fun k env u => ∃ (y5 y6 y7 y10 y11 y12 y13 : Slot), env = envB w b RR y5 y6 y7 y10 y11 y12 y13 ∧ SrcOk u) (r1_eval (n := 4) rfl (by decide))
    (fun k d env u hk hi => by
      obtain ⟨y5, y6, y7, y10, y11, y12, y13, rfl, ok⟩ := hi
      have hk4 : k < 4 := by
        have := (List.getElem?_eq_some_iff.mp hk).1
        simpa using this
      rw [List.getElem?_map, List.getElem?_range hk4] at hk
      cases hk
      obtain ⟨t, u1, e1, ht, ok1⟩ := times_in ok w b RR k y6 y7 y10 y11 y12 y13
      have ht2 : t.natAbs ≤ 10 ^ 282 := by omega
      obtain ⟨T, hT⟩ : ∃ T : D, T = tI (pw w t) := ⟨_, rfl⟩
      have s1 := asg_ok (i := 10) e1
      -- what is due
      have e2 := lc_all (h := fun i : Nat => PyData.int i) (k := fun x : Nat => PyData.int (it w t x)) (fi := fR1 (fVar 2)) (fg := gfName 6) (fe := fCallL 3 m_law_led (fACons (fVar 3) (fACons (fVar 6) (fACons (fVar 10) fANil)))) (vs := [6])
        (env := envB w b RR (.val (.int k)) y6 y7 (.val (.int t)) y11 y12 y13) (u := u1) (List.range w.length) (r1_eval rfl (by omega)) (by rw [List.length_range]; exact line_of (by omega))
        (fun x hx => ⟨envB w b RR (.val (.int k)) (.val (.int x)) y7 (.val (.int t)) y11 y12 y13, rfl, c3 rfl rfl rfl rfl (law_led_eq W (by omega) x t (led_mul W hl hB x t ht2) u1)⟩)
      have e2' : fCall tupleD (fPCons (fLc (fR1 (fVar 2)) (gfName 6) fYes (fCallL 3 m_law_led (fACons (fVar 3) (fACons (fVar 6) (fACons (fVar 10) fANil)))) [6]) fPNil) (envB w b RR (.val (.int k)) y6 y7 (.val (.int t)) y11 y12 y13) u1 = .ok T u1 := call_one e2 (by rw [hT, tI_pw]; rfl)
      have s2 := asg_ok (i := 7) e2'
      have e3 := power_told_eq W (by omega) (W.pow_ok (by omega) hB hB15 ht2) u1
      have e3 : m_power_told [.d (tI w), .d (.int t)] u1 = .ok T u1 := by rw [hT]; exact e3
      have s3 : fAsg 11 (fCallL 2 m_power_told (fACons (fVar 3) (fACons (fVar 10) fANil))) (envB w b RR (.val (.int k)) y6 (.val T) (.val (.int t)) y11 y12 y13) u1 = .nx (envB w b RR (.val (.int k)) y6 (.val T) (.val (.int t)) (.val T) y12 y13) u1 := asg_ok (c2 rfl rfl rfl e3)
      have hrep : ∃ z, reprD [T] = some (.str z) := by rw [hT]; exact repr_pw W hl hB hB15 ht2
      -- the rows
      have hmb := md_lt t hb
      obtain ⟨r, hr⟩ : ∃ r : Nat, (r : Int) = t % b := ⟨(t % b).toNat, Int.toNat_of_nonneg hmb.1⟩
      have s5 : fAsg 12 (fBin modD (fCall intD (fPCons (fVar 10) fPNil)) (fVar 8)) (envB w b RR (.val (.int k)) y6 (.val T) (.val (.int t)) (.val T) y12 y13) u1 = .nx (envB w b RR (.val (.int k)) y6 (.val T) (.val (.int t)) (.val T) (.val (.int r)) y13) u1 :=
        asg_ok (bin_ok (a := .int t) (b := .int b) rfl rfl (by rw [modD_int (by omega), hr]))
      have hrow : ixQ RR (.int r) = some (rowD (lrow w (lcW w) b r)) := by
        rw [hRR]
        refine ixQ_tup (by omega) ?_
        rw [Int.toNat_natCast, List.getElem?_map, List.getElem?_range (by omega)]
        rfl
      have hfd : fdivD (.int (t - r)) (.int b) = some (.int ((t - r) / b)) := fdivD_int (by omega) (by
        have : b.log2 < 9000 := Nat.lt_of_le_of_lt (Nat.log2_le_self _) (by omega)
        simpa using this)
      have e6 := lc_all (h := LD) (k := fun p : Int × Int => PyData.int (p.1 * ((t - r) / b) + p.2)) (fi := fTupI (fBin ixQ (fVar 9) (fVar 12))) (fg := gfName 16) (fe := fCallL 2 m_line_at (fACons (fVar 16) (fACons (fBin fdivD (fBin subD (fVar 10) (fVar 12)) (fVar 8)) fANil))) (vs := [16])
        (env := envB w b RR (.val (.int k)) y6 (.val T) (.val (.int t)) (.val T) (.val (.int r)) y13) (u := u1) (lrow w (lcW w) b r) (tupI_ok (bin_ok (a := RR) (b := .int r) rfl rfl hrow)) (by simp [lrow, rowL]; exact line_of (by omega))
        (fun p hp => ⟨[.non, .tok, .val (.int w.length), .val (tI w), .val (tI (pw w (-1))), .val (.int k), y6, .val T, .val (.int b), .val RR, .val (.int t), .val T, .val (.int r), y13, .non, .non, .val (LD p)], rfl,
          c2 (a := LD p) (b := .int ((t - r) / b)) rfl (bin_ok (a := .int (t - r)) (b := .int b) (bin_ok (a := .int t) (b := .int r) rfl rfl rfl) rfl hfd) rfl (line_at_eq p _ (by
            unfold lrow rowL at hp
            rw [List.map_map, List.mem_map] at hp
            obtain ⟨x, hx, e⟩ := hp
            rw [← e]
            have hx := List.mem_range.mp hx
            have hs := short_div (b := b) (M := lcW w) ((W.rows_ok hl hB hB15).slope x hx) hbM hM
            have hd := div_abs (k := t - r) (m := b) hb
            have h400 : 10 ^ 282 + 100000 < 10 ^ 400 := by decide +kernel
            have h300 : 10 ^ 300 < 10 ^ 400 := by decide +kernel
            unfold Short at hs
            exact mulOk_small (by show ((it w (lcW w) x - x) * b / (lcW w : Int)).natAbs < _; omega) (by omega)) u1)⟩)
      have e6' : fCall tupleD (fPCons (fLc (fTupI (fBin ixQ (fVar 9) (fVar 12))) (gfName 16) fYes (fCallL 2 m_line_at (fACons (fVar 16) (fACons (fBin fdivD (fBin subD (fVar 10) (fVar 12)) (fVar 8)) fANil))) [16]) fPNil) (envB w b RR (.val (.int k)) y6 (.val T) (.val (.int t)) (.val T) (.val (.int r)) y13) u1 = .ok (tI (pw w t)) u1 := call_one e6 (by
        rw [tI_pw]
        show some (PyData.tuple _) = _
        congr 1
        congr 1
        unfold lrow rowL
        rw [List.map_map, List.map_map]
        refine List.map_congr_left fun x hx => ?_
        have := W.told_line hl hb hmod hg (List.mem_range.mp hx) t
        rw [← hr, Int.toNat_natCast] at this
        exact congrArg PyData.int this)
      -- a far place
      obtain ⟨z, u2, e7, hz, ok2⟩ := law_far_spec ok1
      have s7 : fAsg 6 (fCallL 1 m_law_far (fATok 1 fANil)) (envB w b RR (.val (.int k)) y6 (.val T) (.val (.int t)) (.val T) (.val (.int r)) y13) u1 = .nx (envB w b RR (.val (.int k)) (.val (.int z)) (.val T) (.val (.int t)) (.val T) (.val (.int r)) y13) u2 := asg_ok (callL_ok (as := [.tok]) rfl rfl e7)
      have hpp := W.pw_win t
      have p1 := place_at_eq (w := pw w t) hpp.pos z u2
      rw [W.pw_at, ← hT] at p1
      have p2 := law_led_eq W (by omega) z t (led_mul W hl hB z t ht2) u2
      have p3 := place_back_eq hpp (by rw [pw_len]; omega) (it w t z) u2
      rw [← W.pw_at t z, hpp.bk_at, ← hT, W.pw_at] at p3
      -- in two parts
      obtain ⟨i, u3, e9, hi, ok3⟩ := pick_spec ok2 (many := 9) (by decide) (by decide)
      obtain ⟨q, hq⟩ : ∃ q : Int, q = (i : Int) - 4 := ⟨_, rfl⟩
      have s9 : fAsg 13 (fBin subD (fCallL 2 m_law_pick (fATok 1 (fACons (fC (.int 9)) fANil))) (fC (.int 4))) (envB w b RR (.val (.int k)) (.val (.int z)) (.val T) (.val (.int t)) (.val T) (.val (.int r)) y13) u2 = .nx (envB w b RR (.val (.int k)) (.val (.int z)) (.val T) (.val (.int t)) (.val T) (.val (.int r)) (.val (.int q))) u3 :=
        asg_ok (bin_ok (a := .int i) (b := .int 4) (callL_ok (argsTok1 (d := .int 9) rfl rfl) rfl e9) rfl (by rw [hq]; rfl))
      have hq2 : q.natAbs ≤ 10 ^ 282 := by omega
      have hq3 : (t - q).natAbs ≤ 10 ^ 282 := by omega
      have f1 := power_told_eq W (by omega) (W.pow_ok (by omega) hB hB15 hq2) u3
      have f2 := power_told_eq W (by omega) (W.pow_ok (by omega) hB hB15 hq3) u3
      have f3 := window_on_eq (W.pw_win q) (v := pw w (t - q)) (by rw [pw_len]; omega) (fun x hx => by
        obtain ⟨y, hy, e⟩ := List.mem_map.mp hx
        have hy := List.mem_range.mp hy
        rw [← e, W.pw_at, ← W.it_add]
        refine win_short W hB hB15 (by rw [show q + (t - q) = t by omega]; exact ht2) ?_
        have : (8 : Nat) ≤ 10 ^ 282 := by decide +kernel
        omega) u3
      have hcomp : (pw w (t - q)).map (at_ (pw w q)) = pw w t := by
        unfold pw
        rw [List.map_map]
        refine List.map_congr_left fun x _ => ?_
        show at_ (pw w q) (it w (t - q) x) = _
        rw [W.pw_at, ← W.it_add, show q + (t - q) = t by omega]
      rw [hcomp, ← hT] at f3
      refine ⟨envB w b RR (.val (.int k)) y6 y7 y10 y11 y12 y13, envB w b RR (.val (.int k)) (.val (.int z)) (.val T) (.val (.int t)) (.val T) (.val (.int r)) (.val (.int q)), u3, rfl, ?_, _, _, _, _, _, _, _, rfl, ok3⟩
      refine (seq_nx s1).trans ((seq_nx s2).trans ((seq_nx s3).trans ((seq_nx ((if_no (rep_no rfl rfl hrep)).trans rfl)).trans ((seq_nx s5).trans ((seq_nx ((if_no (tI_no e6' (by rw [← hT]; rfl))).trans rfl)).trans ((seq_nx s7).trans ((seq_nx ((if_no (or_no (int_no (c2 rfl rfl rfl p1) (c3 rfl rfl rfl rfl p2)) (int_no (c2 rfl (c2 rfl rfl rfl p1) rfl p3) rfl))).trans rfl)).trans ((seq_nx s9).trans ?_))))))))
      exact (if_no (rep_no (c2 (c2 (a := tI w) (b := .int q) rfl rfl rfl f1) (c2 (a := tI w) (b := .int (t - q)) rfl rfl rfl f2) rfl f3) rfl hrep)).trans rfl)
    ⟨x5, x6, x7, .non, .non, .non, .non, rfl, ok⟩
  exact ⟨y5, y6, y7, y10, y11, y12, y13, u', h1, ok'⟩
end
end K67

set_option exponentiation.threshold 1000
namespace K67
open PySem L2 DL Mv
section
variable {w : List Int}
def envC (w : List Int) (x5 x6 x7 x8 x9 x10 x11 x12 x13 : Slot) (h : D) : DL.Env := [.non, .tok, .val (.int w.length), .val (tI w), .val (tI (pw w (-1))), x5, x6, x7, x8, x9, x10, x11, x12, x13, .val h, .non, .non]
def bodyC : SF Src := (fSeq (fIfS (fOr (fB (fBin DL.neV (fCall reprD (fPCons (fCallL 2 m_power_told (fACons (fVar 3) (fACons (fVar 10) fANil))) fPNil)) (fCall reprD (fPCons (fVar 14) fPNil)))) (fB (fBin DL.neV (fCall reprD (fPCons (fCallL 2 m_power_told (fACons (fVar 4) (fACons (fVar 10) fANil))) fPNil)) (fCall reprD (fPCons (fCallL 1 m_law_undone (fACons (fVar 14) fANil)) fPNil))))) (fRet (fC (.bool false))) fNext) (fAsg 14 (fCallL 2 m_law_on (fACons (fVar 3) (fACons (fVar 14) fANil)))))
theorem lap13 (W : Win w) (hl : w.length ≤ 8) (hB : Bound w (10 ^ 12)) (x5 x6 x7 x8 x9 x10 x11 x12 x13 : Slot) (u : Src) : ∃ (y10 : Slot) (h : D), fFor (fR1 (fC (.int 13))) (gfName 10) bodyC (envC w x5 x6 x7 x8 x9 x10 x11 x12 x13 (tI (pw w 0))) u = .nx (envC w x5 x6 x7 x8 x9 y10 x11 x12 x13 h) u := by
  have hB15 : (10 : Nat) ^ 12 ≤ 10 ^ 15 := by decide
  have h100 : (100 : Nat) ≤ 10 ^ 282 := by decide +kernel
  have Wb := W.pw_win (-1)
  have hBb := Bound.pw1 W hB (-1) (by decide)
  have hlb : (pw w (-1)).length ≤ 8 := by rw [pw_len]; exact hl
  obtain ⟨env', u', h1, rfl, y10, rfl⟩ := for_run (fi := fR1 (fC (.int 13))) (fg := gfName 10) (fb := bodyC) (env := envC w x5 x6 x7 x8 x9 x10 x11 x12 x13 (tI (pw w 0))) (u := u) (ds := (List.range 13).map fun i : Nat => PyData.int i)
    (fun k env u' => u' = u ∧ ∃ y10, env = envC w x5 x6 x7 x8 x9 y10 x11 x12 x13 (tI (pw w (k : Nat)))) (r1_eval (n := 13) rfl (by decide))
    (fun k d env u' hk hi => by
      obtain ⟨rfl, y10, rfl⟩ := hi
      have hk13 : k < 13 := by
        have := (List.getElem?_eq_some_iff.mp hk).1
        simpa using this
      rw [List.getElem?_map, List.getElem?_range hk13] at hk
      cases hk
      have hkk : ((k : Nat) : Int).natAbs ≤ 10 ^ 282 := by omega
      have e1 := power_told_eq W (by omega) (W.pow_ok (by omega) hB hB15 hkk) u'
      have e2 := power_told_eq Wb (by omega) (Wb.pow_ok (by omega) hBb hB15 hkk) u'
      have e3 := law_undone_eq (W.pw_win k) (by rw [pw_len]; omega) u'
      have heq : ((List.range (pw w (k : Nat)).length).map fun x : Nat => bk (pw w (k : Nat)) x) = pw (pw w (-1)) (k : Nat) := by
        unfold pw
        rw [List.length_map, List.length_range, List.length_map, List.length_range]
        refine List.map_congr_left fun x _ => ?_
        have a := bk_pw W (k : Nat) x
        have b := it_pw_neg W (k : Nat) x
        unfold pw at a b
        rw [a, b]
      rw [heq] at e3
      have e4 := law_on_eq (w := w) W.pos (v := pw w (k : Nat)) (by rw [pw_len]; omega) u'
      have heq2 : (pw w (k : Nat)).map (at_ w) = pw w ((k + 1 : Nat) : Int) := by
        unfold pw
        rw [List.map_map]
        refine List.map_congr_left fun x _ => ?_
        show at_ w (it w (k : Nat) x) = _
        rw [← W.it_succ]
        rfl
      rw [heq2] at e4
      refine ⟨envC w x5 x6 x7 x8 x9 (.val (.int k)) x11 x12 x13 (tI (pw w (k : Nat))), envC w x5 x6 x7 x8 x9 (.val (.int k)) x11 x12 x13 (tI (pw w ((k + 1 : Nat) : Int))), u', rfl, ?_, rfl, .val (.int k), rfl⟩
      refine (seq_nx ((if_no (or_no (rep_no (c2 (a := tI w) (b := .int k) rfl rfl rfl e1) rfl (repr_pw W hl hB hB15 hkk)) (rep_no (c2 (a := tI (pw w (-1))) (b := .int k) rfl rfl rfl e2) (c1 (a := tI (pw w (k : Nat))) rfl rfl e3) (repr_pw Wb hlb hBb hB15 hkk)))).trans rfl)).trans ?_
      exact asg_ok (c2 (a := tI w) (b := tI (pw w (k : Nat))) rfl rfl rfl e4))
    ⟨rfl, x10, rfl⟩
  exact ⟨y10, _, h1⟩
theorem tupRg_eval {fe : EF Src D} {env : DL.Env} {u : Src} {n : Nat} (h : fe env u = .ok (.int n) u) (hn : n ≤ 100000) : fTupRg (fRg1 fe) env u = .ok (.tuple ((List.range n).map fun i : Nat => PyData.int i)) u := by
  unfold fTupRg fRg1 fI
  rw [h]
  show (if rgOk (0, (n : Int)) = true then _ else _) = _
  rw [if_pos (by unfold rgOk; simp; omega)]
  show Rs.ok (PyData.tuple (rgD 0 n)) u = _
  rw [rg_list]
theorem rows_look (w : List Int) {M b : Nat} (hb : b ≤ 900) {RR : D} (hRR : RR = .tuple ((List.range b).map fun i => rowD (lrow w M b i))) (x5 x6 x7 : Slot) (u : Src) :
    (fOr (fB (fBin DL.neV (fCall lenD (fPCons (fVar 9) fPNil)) (fVar 8))) (fB (fBin DL.neV (fLc (fTupI (fVar 9)) (gfName 15) (fB (fBin DL.neV (fCall lenD (fPCons (fVar 15) fPNil)) (fVar 2))) (fVar 15) [15]) (fLst fANil)))) (envB w b RR x5 x6 x7 .non .non .non .non) u = .ok false u := by
  have h1 : lenD [RR] = some (.int b) := by rw [hRR, lenD_t]; simp
  have e := lc_eval (h := fun i : Nat => rowD (lrow w M b i)) (k := fun i : Nat => rowD (lrow w M b i)) (p := fun _ => false) (fi := fTupI (fVar 9)) (fg := gfName 15) (ft := (fB (fBin DL.neV (fCall lenD (fPCons (fVar 15) fPNil)) (fVar 2)))) (fe := fVar 15) (vs := [15])
    (env := envB w b RR x5 x6 x7 .non .non .non .non) (u := u) (List.range b) (tupI_ok (by rw [hRR]; rfl)) (by rw [List.length_range]; exact line_of (by omega))
    (fun i hi => ⟨[.non, .tok, .val (.int w.length), .val (tI w), .val (tI (pw w (-1))), x5, x6, x7, .val (.int b), .val RR, .non, .non, .non, .non, .non, .val (rowD (lrow w M b i)), .non], rfl,
      int_no (i := w.length) (call_one (a := rowD (lrow w M b i)) rfl (by unfold rowD; rw [lenD_t]; simp [lrow, rowL])) rfl, fun z => (nomatch z)⟩)
  rw [List.filter_eq_nil_iff.mpr (fun _ _ => Bool.false_ne_true)] at e
  exact or_no (int_no (call_one (a := RR) rfl h1) rfl) (ne_no (a := .list []) (b := .list []) e rfl rfl)
theorem kept (ns : List Int) (hns : ns.length ≤ 63) : Kept 17 b_law ns := by
  have ok := srcOf_ok ns hns
  obtain ⟨i, u1, e1, hi, ok1⟩ := pick_spec ok (many := 8) (by decide) (by decide)
  obtain ⟨n, hn⟩ : ∃ n : Nat, n = i + 1 := ⟨_, rfl⟩
  have s1 : fAsg 2 (fBin addD (fC (.int 1)) (fCallL 2 m_law_pick (fATok 1 (fACons (fC (.int 8)) fANil)))) (lawEnv 17) (srcOf ns) = .nx [.non, .tok, .val (.int n), .non, .non, .non, .non, .non, .non, .non, .non, .non, .non, .non, .non, .non, .non] u1 := by
    have e : fBin addD (fC (.int 1)) (fCallL 2 m_law_pick (fATok 1 (fACons (fC (.int 8)) fANil))) (lawEnv 17) (srcOf ns) = .ok (.int n) u1 := bin_ok (a := .int 1) (b := .int i) rfl (callL_ok (argsTok1 (d := .int 8) rfl rfl) rfl e1) (by
      rw [addD_int, hn, show (1 : Int) + i = ((i + 1 : Nat) : Int) by omega])
    exact asg_ok e
  obtain ⟨d, u2, e2, hd, ok2⟩ := of_spec ok1 (ds := [.int 1, .int 1, .int (10 ^ 9)]) (by decide) (by decide)
  obtain ⟨far, rfl, hf⟩ : ∃ f : Int, d = .int f ∧ f.natAbs ≤ 10 ^ 9 := by
    simp only [List.mem_cons, List.not_mem_nil, or_false] at hd
    rcases hd with h | h | h <;> exact ⟨_, h, by decide⟩
  obtain ⟨w, u3, e3, W, hwl, hB, ok3⟩ := law_window_spec ok2 (n := n) (by omega) (by omega) hf
  have hl : w.length ≤ 8 := by omega
  have hB15 : (10 : Nat) ^ 12 ≤ 10 ^ 15 := by decide
  have h282 : (1 : Nat) ≤ 10 ^ 282 := by decide +kernel
  have s2 : fAsg 3 (fCallL 3 m_law_window (fATok 1 (fACons (fVar 2) (fACons (fCallL 2 m_law_of (fATok 1 (fACons (fLst (fACons (fC (.int 1)) (fACons (fC (.int 1)) (fACons (fBin powD (fC (.int 10)) (fC (.int 9))) fANil)))) fANil))) fANil)))) [Slot.non, .tok, .val (.int n), .non, .non, .non, .non, .non, .non, .non, .non, .non, .non, .non, .non, .non, .non] u1 =
      .nx [Slot.non, .tok, .val (.int n), .val (tI w), .non, .non, .non, .non, .non, .non, .non, .non, .non, .non, .non, .non, .non] u3 := by
    have a1 : fCallL 2 m_law_of (fATok 1 (fACons (fLst (fACons (fC (.int 1)) (fACons (fC (.int 1)) (fACons (fBin powD (fC (.int 10)) (fC (.int 9))) fANil)))) fANil)) [Slot.non, .tok, .val (.int n), .non, .non, .non, .non, .non, .non, .non, .non, .non, .non, .non, .non, .non, .non] u1 = .ok (.int far) u2 := callL_ok (argsTok1 (d := .list [.int 1, .int 1, .int (10 ^ 9)]) rfl (by kernel_rfl)) rfl e2
    have a2 : fATok 1 (fACons (fVar 2) (fACons (fCallL 2 m_law_of (fATok 1 (fACons (fLst (fACons (fC (.int 1)) (fACons (fC (.int 1)) (fACons (fBin powD (fC (.int 10)) (fC (.int 9))) fANil)))) fANil))) fANil)) [Slot.non, .tok, .val (.int n), .non, .non, .non, .non, .non, .non, .non, .non, .non, .non, .non, .non, .non, .non] u1 = .ok [.tok, .d (.int n), .d (.int far)] u2 := by
      rw [fATok_app]
      show Rs.bind (fACons (fVar 2) _ _ u1) _ = _
      rw [args2 (a := .int n) rfl a1, ok_bind]
    exact asg_ok (callL_ok a2 rfl e3)
  rw [← hwl] at s1 s2
  have e4 := window_undone_eq W (by omega) (fun x hx => by
    rw [← W.it_neg]
    have : (8 : Nat) ≤ 10 ^ 282 := by decide +kernel
    exact win_short W hB hB15 (by omega) (by omega)) u3
  rw [pw_neg] at e4
  have s3 : fAsg 4 (fCallL 1 m_window_undone (fACons (fVar 3) fANil)) [Slot.non, .tok, .val (.int w.length), .val (tI w), .non, .non, .non, .non, .non, .non, .non, .non, .non, .non, .non, .non, .non] u3 = .nx (envA w .non .non .non .non .non .non .non .non .non .non) u3 := asg_ok (c1 (a := tI w) rfl rfl e4)
  have e5 := law_undone_eq W (by omega) u3
  rw [pw_neg] at e5
  have hrep : ∃ z, reprD [tI (pw w (-1))] = some (.str z) := repr_pw W hl hB hB15 (by omega)
  obtain ⟨x5, x6, x7, u4, s5, ok4⟩ := lap3 W hl hB ok3
  obtain ⟨b, hb, hmod, hg, e6⟩ := powers_told_eq W hl (W.rows_ok hl hB hB15)
  obtain ⟨_, hM, hM2, _⟩ := W.lcW_spec hl
  have hbM : b ≤ lcW w := Nat.le_of_dvd hM (Nat.dvd_of_mod_eq_zero hmod)
  obtain ⟨RR, hRR⟩ : ∃ RR : D, RR = .tuple ((List.range b).map fun i => rowD (lrow w (lcW w) b i)) := ⟨_, rfl⟩
  have e6 := e6 u4
  rw [← hRR] at e6
  have s6 : fUnp (fCallL 1 m_powers_told (fACons (fVar 3) fANil)) (gfTup 2 (gfCons (gfName 8) (gfCons (gfName 9) gfNil))) (envA w x5 x6 x7 .non .non .non .non .non .non .non) u4 = .nx (envB w b RR x5 x6 x7 .non .non .non .non) u4 := unp_ok (c1 (a := tI w) rfl rfl e6) rfl
  have s7 := rows_look w (b := b) (by omega) hRR x5 x6 x7 u4
  obtain ⟨y5, y6, y7, y10, y11, y12, y13, u5, s8, ok5⟩ := lap4 W hl hB hb hmod hg hRR x5 x6 x7 ok4
  have s9 : fAsg 14 (fTupRg (fRg1 (fVar 2))) (envB w b RR y5 y6 y7 y10 y11 y12 y13) u5 = .nx (envC w y5 y6 y7 (.val (.int b)) (.val RR) y10 y11 y12 y13 (tI (pw w 0))) u5 := by
    have a := tupRg_eval (fe := fVar 2) (env := envB w b RR y5 y6 y7 y10 y11 y12 y13) (u := u5) (n := w.length) rfl (by omega)
    rw [show PyData.tuple ((List.range w.length).map fun i : Nat => PyData.int i) = tI (pw w 0) by
      rw [tI_pw]
      rfl] at a
    exact asg_ok a
  obtain ⟨z10, h, s10⟩ := lap13 W hl hB y5 y6 y7 (.val (.int b)) (.val RR) y10 y11 y12 y13 u5
  refine ⟨u5, ?_⟩
  exact (seq_nx s1).trans ((seq_nx s2).trans ((seq_nx s3).trans ((seq_nx ((if_no (rep_no rfl (c1 (a := tI w) rfl rfl e5) hrep)).trans rfl)).trans ((seq_nx s5).trans ((seq_nx s6).trans ((seq_nx ((if_no s7).trans rfl)).trans ((seq_nx s8).trans ((seq_nx s9).trans ((seq_nx s10).trans rfl)))))))))
end
end K67

namespace K67
open PySem L2 DL Mv
/-! ### the walk -/
theorem ok_law_source {P : Program} {w : World} {K : PySem.W.Frag} {mg : Str → Option Value} {base : Heap} {f : Addr} {fd : FuncData} (F : Fun K "_law_source" "_law_source" st_law_source f fd) (zi : mg "int" = none) (za : mg "abs" = none) :
    FnG P w K mg base 1 f fd ["script"] (SpSrc K) := by
  refine fnG_of F sc_law_source (fun vs H Q E h => ?_) fun cdv A outer s0 H vs Q E hgu hr h => ?_
  · obtain ⟨a, ns, rfl, _⟩ := h
    rfl
  · obtain ⟨a, ns, rfl, hS, hl, q⟩ := h
    have nd := sc_law_source.nd
    exact ⟨tSrc K, pss_cons (ps_set (i := 1) nd rfl (.inl rfl) pe_int) (pss_cons (ps_for (passes_of rfl) rfl (pi_list (pv 0)) (pg_name (i := 2) nd rfl (.inl rfl))
        (pss_one (ps_set (i := 1) nd rfl (.inl rfl) (pe_op op_mod (pe_callTy call_int1 (by rfl) zi bt_int (pa_cons (pe_op op_add (pe_op op_add (pe_op op_mul (pv 1) pe_int) (pe_op op_mul (pv 2) pe_int)) pe_int) pa_nil)) pe_int))))
      (pss_one (ps_ret (pe_disp (pps_cons pe_str (pe_revL (pe_lc (own := [("cell", 2)]) rfl nd (pi_list (pv 0)) (blkOk_by (N := N_law_source) (sc := defScope st_law_source) (by decide +kernel)) (fun _ _ _ _ _ => pg_name (i := 2) nd rfl (.inl rfl)) (fun _ _ _ _ _ => pts_nil)
          (fun _ _ _ _ _ => pe_callB call_abs (by rfl) za bt_abs (pa_cons (pv 2) pa_nil)))) (pps_cons pe_str pe_int (pps_cons pe_str (pv 1) (pps_cons pe_str pe_int pps_nil)))) rfl rfl (fun z => nomatch z) (by decide))))),
      src_sem hS hl fun s c H' h1 h2 h3 => q s c H' h1 h2 h3⟩

theorem ok_law_pick {P : Program} {w : World} {K : PySem.W.Frag} {mg : Str → Option Value} {base : Heap} {xr : XR} {f : Addr} {fd : FuncData} (F : Fun K "_law_pick" "_law_pick" st_law_pick f fd) (Z : ZZ mg)  : FnG P w K mg base 1 f fd ["source", "many"] (SpD K xr 2 m_law_pick) :=
  fnD_of F sc_law_pick rfl fun cdv A outer s0 H E hgu hr => by
    haveI : Inhabited Shared := ⟨s0⟩
    have hu1 := rm1 hr
    have hu64 := rm64 hr
    have hu65 := rm65 hr
    have S := sc_law_pick
    exact ⟨_, fun s c hne => (ss_cons (s_while (passes_of rfl) (XW.t (xw_and (xt_cmp op_gt ops_cmpI (XE.p (x_var 1)) (XE.p x_int)) (xw_and (xt_cmp op_lt ops_cmpI (XE.p (x_srcI .left 0 hu1)) (XE.p x_int)) (xw_and1 (xt_cmp op_gt ops_cmpI (XE.p (x_srcLen hne rfl 0 hu1 (by rfl) Z.z_len)) (XE.p x_int)))))) (ss_one (s_srcPut .left 0 hu1 (x_srcPop hne rfl 0 hu1 rfl)))) (ss_cons (s_set 2 S.nd (x_srcI .left 0 hu1)) (ss_cons (s_if (XW.t (xw_or (xt_cmp op_lt ops_cmpI (XE.p (x_var 1)) (XE.p x_int)) (xw_or1 (xt_cmp op_gt ops_cmpI (XE.p (x_var 2)) (XE.p x_int))))) (ss_cons (s_srcPut .left 0 hu1 (x_bin op_fdivW ops_fdiv (XE.p (x_var 2)) (XE.p (x_cb (call_max2 rfl) calls_max2 (by rfl) Z.z_max bt_max (xps_cons (XE.p x_int) (xps_cons (XE.p (x_var 1)) xps_nil)))))) (ss_one (s_ret (x_bin op_mod ops_mod (XE.p (x_ct callr_int calls_int (by rfl) Z.z_int  bt_int (xps_cons (XE.p (x_var 2)) xps_nil))) (XE.p (x_cb (call_max2 rfl) calls_max2 (by rfl) Z.z_max bt_max (xps_cons (XE.p x_int) (xps_cons (XE.p (x_var 1)) xps_nil)))))))) ss_nil) (ss_cons (s_srcPut .turn 0 hu1 (y_add (K := K) rfl rfl (XE.p (x_srcI .turn 0 hu1)) (XE.p x_int))) (ss_cons (s_set 3 S.nd (x_bin op_mod ops_mod (XE.p (x_ct callr_int calls_int (by rfl) Z.z_int  bt_int (xps_cons (XE.p (y_add (K := K) rfl rfl (XE.p (x_srcI .mixed 0 hu1)) (XE.p (y_mul (K := K) rfl rfl (XE.p (x_srcI .turn 0 hu1)) (XE.p x_int))))) xps_nil))) (XE.p x_int))) (ss_cons (s_set 3 S.nd (x_bin op_mod ops_mod (XE.p (x_ct callr_int calls_int (by rfl) Z.z_int  bt_int (xps_cons (XE.p (y_add (K := K) rfl rfl (XE.p (y_mul (K := K) rfl rfl (XE.p (x_var 3)) (XE.p (x_var 3)))) (XE.p (y_mul (K := K) rfl rfl (XE.p (x_srcI .turn 0 hu1)) (XE.p x_int))))) xps_nil))) (XE.p x_int))) (ss_cons (s_srcPut .mixed 0 hu1 (x_var 3)) (ss_one (s_ret (x_bin op_mod ops_mod (XE.p (x_ct callr_int calls_int (by rfl) Z.z_int  bt_int (xps_cons (XE.p (x_bin op_fdivW ops_fdiv (XE.p (x_var 3)) (XE.p x_int))) xps_nil))) (XE.p (x_var 1))))))))))))⟩
theorem ok_law_mixed {P : Program} {w : World} {K : PySem.W.Frag} {mg : Str → Option Value} {base : Heap} {xr : XR} {f : Addr} {fd : FuncData} (F : Fun K "_law_mixed" "_law_mixed" st_law_mixed f fd) (Z : ZZ mg)
    (c_law_pick : CalD P w K mg base xr 1 "_law_pick" 2 m_law_pick) : FnG P w K mg base 2 f fd ["source", "things"] (SpD K xr 2 m_law_mixed) := by
  refine fnG_of F sc_law_mixed (fun vs H Q E h => h.1) fun cdv A outer s0 H vs Q E hgu hr h => ?_
  obtain ⟨fp, fdp, ps, Fp, gp, kp, bp⟩ := c_law_pick.ex
  have nd := sc_law_mixed.nd
  refine ⟨tMix K (SpD K xr 2 m_law_pick), pss_cons (ps_set (i := 2) nd rfl (.inr rfl) (pe_callTy call_list_of (by rfl) Z.z_list bt_list (pa_cons (pv 1) pa_nil)))
    (pss_one (ps_ret (pe_lc (own := [("lap", 3)]) rfl nd (pi_range1 (by rfl) Z.z_range (pa_cons (pe_callB call_len (by rfl) Z.z_len bt_len (pa_cons (pv 2) pa_nil)) pa_nil)) (blkOk_by (N := N_law_mixed) (sc := defScope st_law_mixed) (by decide +kernel))
      (fun _ _ _ _ _ => pg_name (i := 3) nd rfl (.inl rfl)) (fun _ _ _ _ _ => pts_nil)
      (fun _ _ _ _ _ => pe_bm PySem.F.plainAttrs_list PySem.F.slot_list_pop PySem.F.type_list_pop mt_popAt (pv 2)
        (pa_cons (pe_callG Fp hgu hr (by rfl) gp kp bp takes0 (pa_cons (pv 0) (pa_cons (pe_callB call_len (by rfl) Z.z_len bt_len (pa_cons (pv 2) pa_nil)) pa_nil))) pa_nil))))),
    mix_sem rfl h fun v H' z => z⟩

theorem ok_law_window {P : Program} {w : World} {K : PySem.W.Frag} {mg : Str → Option Value} {base : Heap} {xr : XR} {f : Addr} {fd : FuncData} (F : Fun K "_law_window" "_law_window" st_law_window f fd) (Z : ZZ mg) (c_law_mixed : CalD P w K mg base xr 2 "_law_mixed" 2 m_law_mixed) (c_law_pick : CalD P w K mg base xr 1 "_law_pick" 2 m_law_pick) : FnG P w K mg base 3 f fd ["source", "n", "far"] (SpD K xr 3 m_law_window) :=
  fnD_of F sc_law_window rfl fun cdv A outer s0 H E hgu hr => by
    haveI : Inhabited Shared := ⟨s0⟩
    have hu1 := rm1 hr
    have hu64 := rm64 hr
    have hu65 := rm65 hr
    have S := sc_law_window
    exact ⟨_, fun s c hne => (ss_cons (s_set 3 S.nd (x_call (c_law_mixed.mono (by decide)) hne ⟨rfl, rfl, rfl, rfl, rfl⟩ hgu hr (xa_tok 0 (xa_cons (XN.e (xn_lrg (by rfl) (by rfl) Z.z_list (xrg1 (by rfl) Z.z_range (XE.p (x_var 1))))) xa_nil)))) (ss_one (s_ret (y_tuple (K := K) rfl rfl (by rfl) Z.z_tuple  bt_tuple (xps_cons (XN.p (xn_lc (own := [("rest", 4)]) rfl S.nd (yi_list (K := K) rfl rfl (x_var 3)) (blkOk_by (N := N_law_window) (sc := defScope st_law_window) (by decide +kernel)) (fun _ _ _ _ _ => (xg_name 4 S.nd)) (fun _ _ _ _ _ => xts_nil) (fun _ _ _ _ _ => (y_add (K := K) rfl rfl (XE.p (x_var 4)) (XE.p (y_mul (K := K) rfl rfl (XE.p (y_mul (K := K) rfl rfl (XE.p (x_var 1)) (XE.p (x_var 2)))) (XE.p (x_bin op_sub ops_sub (XE.p (x_call (c_law_pick.mono (by decide)) hne ⟨rfl, rfl, rfl, rfl, rfl⟩ hgu hr (xa_tok 0 (xa_cons x_int xa_nil)))) (XE.p x_int))))))))) xps_nil)))))⟩
theorem ok_is_long {P : Program} {w : World} {K : PySem.W.Frag} {mg : Str → Option Value} {base : Heap} {xr : XR} {f : Addr} {fd : FuncData} (F : Fun K "is_long" "is_long" st_is_long f fd) (Z : ZZ mg)  : FnG P w K mg base 1 f fd ["number"] (SpD K xr 1 m_is_long) :=
  fnD_of F sc_is_long rfl fun cdv A outer s0 H E hgu hr => by
    obtain ⟨_, h_MOST_FIGURES⟩ := Z.z_MOST_FIGURES
    obtain ⟨_, h_SURE_BITS⟩ := Z.z_SURE_BITS
    haveI : Inhabited Shared := ⟨s0⟩
    have hu1 := rm1 hr
    have hu64 := rm64 hr
    have hu65 := rm65 hr
    have S := sc_is_long
    exact ⟨_, fun s c hne => (ss_one (s_ret (x_or (x_cmp op_gt ops_cmpI (XE.p (x_bits (XE.p (x_var 0)))) (XE.p (x_glob (v := .int 997) (.int 997) (by rfl) h_SURE_BITS ⟨_, rfl⟩ fun _ => .int _))) (x_one (x_cmp op_gt ops_cmpI (XE.p (y_len (K := K) rfl rfl (by rfl) Z.z_len  bt_len (xps_cons (XE.p (x_ct callr_str calls_str (by rfl) Z.z_str  bt_str (xps_cons (XE.p (x_cb call_abs calls_abs (by rfl) Z.z_abs  bt_abs (xps_cons (XE.p (x_var 0)) xps_nil))) xps_nil))) xps_nil))) (XE.p (x_glob (v := .int 300) (.int 300) (by rfl) h_MOST_FIGURES ⟨_, rfl⟩ fun _ => .int _)))))))⟩
theorem ok_not_long {P : Program} {w : World} {K : PySem.W.Frag} {mg : Str → Option Value} {base : Heap} {xr : XR} {f : Addr} {fd : FuncData} (F : Fun K "not_long" "not_long" st_not_long f fd) (Z : ZZ mg) (c_is_long : CalD P w K mg base xr 1 "is_long" 1 m_is_long) : FnG P w K mg base 2 f fd ["numbers"] (SpD K xr 1 m_not_long) :=
  fnD_of F sc_not_long rfl fun cdv A outer s0 H E hgu hr => by
    haveI : Inhabited Shared := ⟨s0⟩
    have hu1 := rm1 hr
    have hu64 := rm64 hr
    have hu65 := rm65 hr
    have S := sc_not_long
    exact ⟨_, fun s c hne => (ss_cons (s_if (xt_val (y_any (K := K) rfl rfl (by rfl) Z.z_any (by rfl) bt_any (xps_cons (XN.p (xn_lc (own := [("number", 1)]) rfl S.nd (yi_tup (K := K) rfl rfl (x_var 0)) (blkOk_by (N := N_not_long) (sc := defScope st_not_long) (by decide +kernel)) (fun _ _ _ _ _ => (xg_name 1 S.nd)) (fun _ _ _ _ _ => xts_nil) (fun _ _ _ _ _ => (x_call (c_is_long.mono (by decide)) hne ⟨rfl, rfl, rfl, rfl, rfl⟩ hgu hr (xa_cons (x_var 1) xa_nil))))) xps_nil))) (ss_one s_never) ss_nil) (ss_one (s_ret (x_var 0))))⟩
theorem ok_window_made {P : Program} {w : World} {K : PySem.W.Frag} {mg : Str → Option Value} {base : Heap} {xr : XR} {f : Addr} {fd : FuncData} (F : Fun K "window_made" "window_made" st_window_made f fd) (Z : ZZ mg) (c_not_long : CalD P w K mg base xr 2 "not_long" 1 m_not_long) : FnG P w K mg base 3 f fd ["window"] (SpD K xr 1 m_window_made) :=
  fnD_of F sc_window_made rfl fun cdv A outer s0 H E hgu hr => by
    haveI : Inhabited Shared := ⟨s0⟩
    have hu1 := rm1 hr
    have hu64 := rm64 hr
    have hu65 := rm65 hr
    have S := sc_window_made
    exact ⟨_, fun s c hne => (ss_one (s_ret (x_call (c_not_long.mono (by decide)) hne ⟨rfl, rfl, rfl, rfl, rfl⟩ hgu hr (xa_cons (x_var 0) xa_nil))))⟩
theorem ok_place_back {P : Program} {w : World} {K : PySem.W.Frag} {mg : Str → Option Value} {base : Heap} {xr : XR} {f : Addr} {fd : FuncData} (F : Fun K "place_back" "place_back" st_place_back f fd) (Z : ZZ mg)  : FnG P w K mg base 1 f fd ["window", "place"] (SpD K xr 2 m_place_back) :=
  fnD_of F sc_place_back rfl fun cdv A outer s0 H E hgu hr => by
    haveI : Inhabited Shared := ⟨s0⟩
    have hu1 := rm1 hr
    have hu64 := rm64 hr
    have hu65 := rm65 hr
    have S := sc_place_back
    exact ⟨_, fun s c hne => (ss_cons (s_set 2 S.nd (y_len (K := K) rfl rfl (by rfl) Z.z_len  bt_len (xps_cons (XE.p (x_var 0)) xps_nil))) (ss_cons (s_set 3 S.nd (y_ix (K := K) rfl rfl (XN.p (xn_lc (own := [("number", 4)]) rfl S.nd (xi_r1 (by rfl) Z.z_range (XE.p (x_var 2))) (blkOk_by (N := N_place_back) (sc := defScope st_place_back) (by decide +kernel)) (fun _ _ _ _ _ => (xg_name 4 S.nd)) (fun _ _ _ _ _ => (xts_one (yt_eq (K := K) hu65 rfl rfl (XE.p (x_bin op_mod ops_mod (XE.p (x_bin op_sub ops_sub (XE.p (y_ix (K := K) rfl rfl (XE.p (x_var 0)) (XE.p (x_var 4)))) (XE.p (x_var 1)))) (XE.p (x_var 2)))) (XE.p x_int)))) (fun _ _ _ _ _ => (x_var 4)))) (XE.p x_int))) (ss_one (s_ret (x_bin op_sub ops_sub (XE.p (y_add (K := K) rfl rfl (XE.p (x_var 3)) (XE.p (x_var 1)))) (XE.p (y_ix (K := K) rfl rfl (XE.p (x_var 0)) (XE.p (x_var 3)))))))))⟩
theorem ok_window_undone {P : Program} {w : World} {K : PySem.W.Frag} {mg : Str → Option Value} {base : Heap} {xr : XR} {f : Addr} {fd : FuncData} (F : Fun K "window_undone" "window_undone" st_window_undone f fd) (Z : ZZ mg) (c_place_back : CalD P w K mg base xr 1 "place_back" 2 m_place_back) (c_window_made : CalD P w K mg base xr 3 "window_made" 1 m_window_made) : FnG P w K mg base 4 f fd ["window"] (SpD K xr 1 m_window_undone) :=
  fnD_of F sc_window_undone rfl fun cdv A outer s0 H E hgu hr => by
    haveI : Inhabited Shared := ⟨s0⟩
    have hu1 := rm1 hr
    have hu64 := rm64 hr
    have hu65 := rm65 hr
    have S := sc_window_undone
    exact ⟨_, fun s c hne => (ss_one (s_ret (x_call (c_window_made.mono (by decide)) hne ⟨rfl, rfl, rfl, rfl, rfl⟩ hgu hr (xa_cons (y_tuple (K := K) rfl rfl (by rfl) Z.z_tuple  bt_tuple (xps_cons (XN.p (xn_lc (own := [("place", 1)]) rfl S.nd (xi_r1 (by rfl) Z.z_range (XE.p (y_len (K := K) rfl rfl (by rfl) Z.z_len  bt_len (xps_cons (XE.p (x_var 0)) xps_nil)))) (blkOk_by (N := N_window_undone) (sc := defScope st_window_undone) (by decide +kernel)) (fun _ _ _ _ _ => (xg_name 1 S.nd)) (fun _ _ _ _ _ => xts_nil) (fun _ _ _ _ _ => (x_call (c_place_back.mono (by decide)) hne ⟨rfl, rfl, rfl, rfl, rfl⟩ hgu hr (xa_cons (x_var 0) (xa_cons (x_var 1) xa_nil)))))) xps_nil)) xa_nil))))⟩
theorem ok_place_at {P : Program} {w : World} {K : PySem.W.Frag} {mg : Str → Option Value} {base : Heap} {xr : XR} {f : Addr} {fd : FuncData} (F : Fun K "place_at" "place_at" st_place_at f fd) (Z : ZZ mg)  : FnG P w K mg base 1 f fd ["window", "place"] (SpD K xr 2 m_place_at) :=
  fnD_of F sc_place_at rfl fun cdv A outer s0 H E hgu hr => by
    haveI : Inhabited Shared := ⟨s0⟩
    have hu1 := rm1 hr
    have hu64 := rm64 hr
    have hu65 := rm65 hr
    have S := sc_place_at
    exact ⟨_, fun s c hne => (ss_cons (s_set 2 S.nd (y_len (K := K) rfl rfl (by rfl) Z.z_len  bt_len (xps_cons (XE.p (x_var 0)) xps_nil))) (ss_one (s_ret (x_bin op_sub ops_sub (XE.p (y_add (K := K) rfl rfl (XE.p (y_ix (K := K) rfl rfl (XE.p (x_var 0)) (XE.p (x_bin op_mod ops_mod (XE.p (x_var 1)) (XE.p (x_var 2)))))) (XE.p (x_var 1)))) (XE.p (x_bin op_mod ops_mod (XE.p (x_var 1)) (XE.p (x_var 2))))))))⟩
theorem ok_round_from {P : Program} {w : World} {K : PySem.W.Frag} {mg : Str → Option Value} {base : Heap} {xr : XR} {f : Addr} {fd : FuncData} (F : Fun K "round_from" "round_from" st_round_from f fd) (Z : ZZ mg) (c_place_at : CalD P w K mg base xr 1 "place_at" 2 m_place_at) : FnG P w K mg base 2 f fd ["window", "rest"] (SpD K xr 2 m_round_from) :=
  fnD_of F sc_round_from rfl fun cdv A outer s0 H E hgu hr => by
    haveI : Inhabited Shared := ⟨s0⟩
    have hu1 := rm1 hr
    have hu64 := rm64 hr
    have hu65 := rm65 hr
    have S := sc_round_from
    exact ⟨_, fun s c hne => (ss_cons (s_par3 rfl S.nd (xm_v (y_len (K := K) rfl rfl (by rfl) Z.z_len  bt_len (xps_cons (XE.p (x_var 0)) xps_nil)) (xm_o (xn_lst (xa_cons (x_var 1) xa_nil)) (xm_v (y_ix (K := K) rfl rfl (XE.p (x_var 0)) (XE.p (x_var 1))) xm_nil))) (by decide) (by decide) (by decide)) (ss_cons (s_while (passes_of rfl) (yt_ne (K := K) hu65 rfl rfl (XE.p (x_bin op_mod ops_mod (XE.p (x_var 4)) (XE.p (x_var 2)))) (XE.p (x_var 1))) (ss_cons (s_app rfl 3 (x_bin op_mod ops_mod (XE.p (x_var 4)) (XE.p (x_var 2)))) (ss_one (s_set 4 S.nd (x_call (c_place_at.mono (by decide)) hne ⟨rfl, rfl, rfl, rfl, rfl⟩ hgu hr (xa_cons (x_var 0) (xa_cons (x_var 4) xa_nil))))))) (ss_one (s_ret (x_tup (xa_cons (y_tuple (K := K) rfl rfl (by rfl) Z.z_tuple  bt_tuple (xps_cons (xp_var 3) xps_nil)) (xa_cons (x_bin op_fdivW ops_fdiv (XE.p (x_bin op_sub ops_sub (XE.p (x_var 4)) (XE.p (x_var 1)))) (XE.p (x_var 2))) xa_nil)))))))⟩
theorem ok_rounds_told {P : Program} {w : World} {K : PySem.W.Frag} {mg : Str → Option Value} {base : Heap} {xr : XR} {f : Addr} {fd : FuncData} (F : Fun K "rounds_told" "rounds_told" st_rounds_told f fd) (Z : ZZ mg) (c_round_from : CalD P w K mg base xr 2 "round_from" 2 m_round_from) : FnG P w K mg base 3 f fd ["window"] (SpD K xr 1 m_rounds_told) :=
  fnD_of F sc_rounds_told rfl fun cdv A outer s0 H E hgu hr => by
    haveI : Inhabited Shared := ⟨s0⟩
    have hu1 := rm1 hr
    have hu64 := rm64 hr
    have hu65 := rm65 hr
    have S := sc_rounds_told
    exact ⟨_, fun s c hne => (ss_cons (s_par2 rfl S.nd (xm_o (xn_lst xa_nil) (xm_o xn_dK xm_nil)) (by decide)) (ss_cons (s_for (passes_of rfl) rfl (xi_r1 (by rfl) Z.z_range (XE.p (y_len (K := K) rfl rfl (by rfl) Z.z_len  bt_len (xps_cons (XE.p (x_var 0)) xps_nil)))) (xg_name 3 S.nd) (ss_one (s_if (xt_dnin hu1 (XE.p (x_var 3)) (xp_var 2)) (ss_cons (s_set 4 S.nd (x_call (c_round_from.mono (by decide)) hne ⟨rfl, rfl, rfl, rfl, rfl⟩ hgu hr (xa_cons (x_var 0) (xa_cons (x_var 3) xa_nil)))) (ss_cons (s_app rfl 1 (x_var 4)) (ss_one (s_updN rfl 2 (y_dict (K := K) rfl rfl (by rfl) Z.z_dict (by rfl) bt_dict (xps_cons (XN.p (xn_lc (own := [("one", 5)]) rfl S.nd (yi_tup (K := K) rfl rfl (y_ix (K := K) rfl rfl (XE.p (x_var 4)) (XE.p x_int))) (blkOk_by (N := N_rounds_told) (sc := defScope st_rounds_told) (by decide +kernel)) (fun _ _ _ _ _ => (xg_name 5 S.nd)) (fun _ _ _ _ _ => xts_nil) (fun _ _ _ _ _ => (x_tup (xa_cons (x_var 5) (xa_cons x_bl xa_nil)))))) xps_nil)))))) ss_nil))) (ss_one (s_ret (y_tuple (K := K) rfl rfl (by rfl) Z.z_tuple  bt_tuple (xps_cons (xp_var 1) xps_nil))))))⟩
theorem ok_least_common {P : Program} {w : World} {K : PySem.W.Frag} {mg : Str → Option Value} {base : Heap} {xr : XR} {f : Addr} {fd : FuncData} (F : Fun K "least_common" "least_common" st_least_common f fd) (Z : ZZ mg)  : FnG P w K mg base 1 f fd ["one", "other"] (SpD K xr 2 m_least_common) :=
  fnD_of F sc_least_common rfl fun cdv A outer s0 H E hgu hr => by
    haveI : Inhabited Shared := ⟨s0⟩
    have hu1 := rm1 hr
    have hu64 := rm64 hr
    have hu65 := rm65 hr
    have S := sc_least_common
    exact ⟨_, fun s c hne => (ss_one (s_ret (y_mul (K := K) rfl rfl (XE.p (x_bin op_fdivW ops_fdiv (XE.p (x_var 0)) (XE.p (x_cf cr_gcd calls_gcd (by rfl) Z.z_gcd (xps_cons (XE.p (x_var 0)) (xps_cons (XE.p (x_var 1)) xps_nil)))))) (XE.p (x_var 1)))))⟩
theorem ok_cells_common {P : Program} {w : World} {K : PySem.W.Frag} {mg : Str → Option Value} {base : Heap} {xr : XR} {f : Addr} {fd : FuncData} (F : Fun K "cells_common" "cells_common" st_cells_common f fd) (Z : ZZ mg) (c_rounds_told : CalD P w K mg base xr 3 "rounds_told" 1 m_rounds_told) (c_least_common : CalD P w K mg base xr 1 "least_common" 2 m_least_common) : FnG P w K mg base 4 f fd ["window"] (SpD K xr 1 m_cells_common) :=
  fnD_of F sc_cells_common rfl fun cdv A outer s0 H E hgu hr => by
    haveI : Inhabited Shared := ⟨s0⟩
    have hu1 := rm1 hr
    have hu64 := rm64 hr
    have hu65 := rm65 hr
    have S := sc_cells_common
    exact ⟨_, fun s c hne => (ss_cons (s_set 1 S.nd x_int) (ss_cons (s_for (passes_of rfl) rfl (yi_tup (K := K) rfl rfl (x_call (c_rounds_told.mono (by decide)) hne ⟨rfl, rfl, rfl, rfl, rfl⟩ hgu hr (xa_cons (x_var 0) xa_nil))) (yg_tup (K := K) rfl rfl (by rfl) (xgs_cons (xg_name 2 S.nd) (xgs_cons (xg_name 3 S.nd) xgs_nil))) (ss_one (s_set 1 S.nd (x_call (c_least_common.mono (by decide)) hne ⟨rfl, rfl, rfl, rfl, rfl⟩ hgu hr (xa_cons (x_var 1) (xa_cons (y_len (K := K) rfl rfl (by rfl) Z.z_len  bt_len (xps_cons (XE.p (x_var 2)) xps_nil)) xa_nil)))))) (ss_one (s_ret (x_var 1)))))⟩
theorem ok_divisors_told {P : Program} {w : World} {K : PySem.W.Frag} {mg : Str → Option Value} {base : Heap} {xr : XR} {f : Addr} {fd : FuncData} (F : Fun K "divisors_told" "divisors_told" st_divisors_told f fd) (Z : ZZ mg)  : FnG P w K mg base 1 f fd ["number"] (SpD K xr 1 m_divisors_told) :=
  fnD_of F sc_divisors_told rfl fun cdv A outer s0 H E hgu hr => by
    haveI : Inhabited Shared := ⟨s0⟩
    have hu1 := rm1 hr
    have hu64 := rm64 hr
    have hu65 := rm65 hr
    have S := sc_divisors_told
    exact ⟨_, fun s c hne => (ss_one (s_ret (y_tuple (K := K) rfl rfl (by rfl) Z.z_tuple  bt_tuple (xps_cons (XN.p (xn_lc (own := [("late", 1)]) rfl S.nd (xi_r2 (by rfl) Z.z_range (XE.p x_int) (XE.p (y_add (K := K) rfl rfl (XE.p (x_var 0)) (XE.p x_int)))) (blkOk_by (N := N_divisors_told) (sc := defScope st_divisors_told) (by decide +kernel)) (fun _ _ _ _ _ => (xg_name 1 S.nd)) (fun _ _ _ _ _ => (xts_one (yt_eq (K := K) hu65 rfl rfl (XE.p (x_bin op_mod ops_mod (XE.p (x_var 0)) (XE.p (x_var 1)))) (XE.p x_int)))) (fun _ _ _ _ _ => (x_var 1)))) xps_nil))))⟩
theorem ok_line_sum {P : Program} {w : World} {K : PySem.W.Frag} {mg : Str → Option Value} {base : Heap} {xr : XR} {f : Addr} {fd : FuncData} (F : Fun K "line_sum" "line_sum" st_line_sum f fd) (Z : ZZ mg)  : FnG P w K mg base 1 f fd ["one", "other"] (SpD K xr 2 m_line_sum) :=
  fnD_of F sc_line_sum rfl fun cdv A outer s0 H E hgu hr => by
    haveI : Inhabited Shared := ⟨s0⟩
    have hu1 := rm1 hr
    have hu64 := rm64 hr
    have hu65 := rm65 hr
    have S := sc_line_sum
    exact ⟨_, fun s c hne => (ss_one (s_ret (x_tup (xa_cons (y_add (K := K) rfl rfl (XE.p (y_ix (K := K) rfl rfl (XE.p (x_var 0)) (XE.p x_int))) (XE.p (y_ix (K := K) rfl rfl (XE.p (x_var 1)) (XE.p x_int)))) (xa_cons (y_add (K := K) rfl rfl (XE.p (y_ix (K := K) rfl rfl (XE.p (x_var 0)) (XE.p x_int))) (XE.p (y_ix (K := K) rfl rfl (XE.p (x_var 1)) (XE.p x_int)))) xa_nil)))))⟩
theorem ok_lines_whole {P : Program} {w : World} {K : PySem.W.Frag} {mg : Str → Option Value} {base : Heap} {xr : XR} {f : Addr} {fd : FuncData} (F : Fun K "lines_whole" "lines_whole" st_lines_whole f fd) (Z : ZZ mg) (c_line_sum : CalD P w K mg base xr 1 "line_sum" 2 m_line_sum) : FnG P w K mg base 2 f fd ["lines", "by", "rest"] (SpD K xr 3 m_lines_whole) :=
  fnD_of F sc_lines_whole rfl fun cdv A outer s0 H E hgu hr => by
    haveI : Inhabited Shared := ⟨s0⟩
    have hu1 := rm1 hr
    have hu64 := rm64 hr
    have hu65 := rm65 hr
    have S := sc_lines_whole
    exact ⟨_, fun s c hne => (ss_one (s_ret (XN.e (xn_lc (own := [("line", 3)]) rfl S.nd (yi_tup (K := K) rfl rfl (x_var 0)) (blkOk_by (N := N_lines_whole) (sc := defScope st_lines_whole) (by decide +kernel)) (fun _ _ _ _ _ => (xg_name 3 S.nd)) (fun _ _ _ _ _ => xts_nil) (fun _ _ _ _ _ => (x_call (c_line_sum.mono (by decide)) hne ⟨rfl, rfl, rfl, rfl, rfl⟩ hgu hr (xa_cons (x_tup (xa_cons x_int (xa_cons (y_mul (K := K) rfl rfl (XE.p (x_un un_neg uns_neg (XE.p (y_ix (K := K) rfl rfl (XE.p (x_var 3)) (XE.p x_int))))) (XE.p (x_var 2))) xa_nil))) (xa_cons (x_tup (xa_cons (y_ix (K := K) rfl rfl (XE.p (x_var 3)) (XE.p x_int)) (xa_cons (y_mul (K := K) rfl rfl (XE.p (y_ix (K := K) rfl rfl (XE.p (x_var 3)) (XE.p x_int))) (XE.p (x_var 1))) xa_nil))) xa_nil))))))))⟩
theorem ok_least_rows {P : Program} {w : World} {K : PySem.W.Frag} {mg : Str → Option Value} {base : Heap} {xr : XR} {f : Addr} {fd : FuncData} (F : Fun K "least_rows" "least_rows" st_least_rows f fd) (Z : ZZ mg) (c_lines_whole : CalD P w K mg base xr 2 "lines_whole" 3 m_lines_whole) (c_divisors_told : CalD P w K mg base xr 1 "divisors_told" 1 m_divisors_told) : FnG P w K mg base 3 f fd ["rows"] (SpD K xr 1 m_least_rows) :=
  fnD_of F sc_least_rows rfl fun cdv A outer s0 H E hgu hr => by
    haveI : Inhabited Shared := ⟨s0⟩
    have hu1 := rm1 hr
    have hu64 := rm64 hr
    have hu65 := rm65 hr
    have S := sc_least_rows
    exact ⟨_, fun s c hne => (ss_cons (s_set 1 S.nd (y_len (K := K) rfl rfl (by rfl) Z.z_len  bt_len (xps_cons (XE.p (x_var 0)) xps_nil))) (ss_cons (s_set 2 S.nd (XN.e (xn_lc (own := [("rest", 5), ("lines", 4)]) rfl S.nd (yi_enum (K := K) rfl rfl (by rfl) Z.z_enumerate (x_var 0)) (blkOk_by (N := N_least_rows) (sc := defScope st_least_rows) (by decide +kernel)) (fun _ _ _ _ _ => (yg_tup (K := K) rfl rfl (by rfl) (xgs_cons (xg_name 5 S.nd) (xgs_cons (xg_name 4 S.nd) xgs_nil)))) (fun _ _ _ _ _ => xts_nil) (fun _ _ _ _ _ => (x_call (c_lines_whole.mono (by decide)) hne ⟨rfl, rfl, rfl, rfl, rfl⟩ hgu hr (xa_cons (x_var 4) (xa_cons (x_var 1) (xa_cons (x_var 5) xa_nil)))))))) (ss_cons (s_for (passes_of rfl) rfl (yi_tup (K := K) rfl rfl (x_call (c_divisors_told.mono (by decide)) hne ⟨rfl, rfl, rfl, rfl, rfl⟩ hgu hr (xa_cons (x_var 1) xa_nil))) (xg_name 3 S.nd) (ss_one (s_if (xt_val (y_all (K := K) rfl rfl (by rfl) Z.z_all (by rfl) bt_all (xps_cons (XN.p (xn_lc (own := [("rest", 5)]) rfl S.nd (xi_r1 (by rfl) Z.z_range (XE.p (x_var 1))) (blkOk_by (N := N_least_rows) (sc := defScope st_least_rows) (by decide +kernel)) (fun _ _ _ _ _ => (xg_name 5 S.nd)) (fun _ _ _ _ _ => xts_nil) (fun _ _ _ _ _ => (y_eq (K := K) hu65 rfl rfl (XE.p (y_ix (K := K) rfl rfl (XE.p (x_var 2)) (XE.p (x_var 5)))) (XE.p (y_ix (K := K) rfl rfl (XE.p (x_var 2)) (XE.p (x_bin op_mod ops_mod (XE.p (x_var 5)) (XE.p (x_var 3)))))))))) xps_nil))) (ss_one (s_ret (x_tup (xa_cons (x_var 3) (xa_cons (y_tuple (K := K) rfl rfl (by rfl) Z.z_tuple  bt_tuple (xps_cons (XN.p (xn_lc (own := [("lines", 4)]) rfl S.nd (yi_list (K := K) rfl rfl (y_slice (K := K) rfl rfl (XE.p (x_var 0)) xo_none (xo_some (x_var 3)))) (blkOk_by (N := N_least_rows) (sc := defScope st_least_rows) (by decide +kernel)) (fun _ _ _ _ _ => (xg_name 4 S.nd)) (fun _ _ _ _ _ => xts_nil) (fun _ _ _ _ _ => (y_tuple (K := K) rfl rfl (by rfl) Z.z_tuple  bt_tuple (xps_cons (XN.p (xn_lc (own := [("line", 6)]) rfl S.nd (yi_tup (K := K) rfl rfl (x_var 4)) (blkOk_by (by kernel_rfl)) (fun _ _ _ _ _ => (xg_name 6 S.nd)) (fun _ _ _ _ _ => xts_nil) (fun _ _ _ _ _ => (x_tup (xa_cons (x_bin op_fdivW ops_fdiv (XE.p (y_mul (K := K) rfl rfl (XE.p (y_ix (K := K) rfl rfl (XE.p (x_var 6)) (XE.p x_int))) (XE.p (x_var 3)))) (XE.p (x_var 1))) (xa_cons (y_ix (K := K) rfl rfl (XE.p (x_var 6)) (XE.p x_int)) xa_nil)))))) xps_nil))))) xps_nil)) xa_nil))))) ss_nil))) (ss_one s_never))))⟩
theorem ok_round_places {P : Program} {w : World} {K : PySem.W.Frag} {mg : Str → Option Value} {base : Heap} {xr : XR} {f : Addr} {fd : FuncData} (F : Fun K "round_places" "round_places" st_round_places f fd) (Z : ZZ mg) (c_place_at : CalD P w K mg base xr 1 "place_at" 2 m_place_at) : FnG P w K mg base 2 f fd ["window", "rests"] (SpD K xr 2 m_round_places) :=
  fnD_of F sc_round_places rfl fun cdv A outer s0 H E hgu hr => by
    haveI : Inhabited Shared := ⟨s0⟩
    have hu1 := rm1 hr
    have hu64 := rm64 hr
    have hu65 := rm65 hr
    have S := sc_round_places
    exact ⟨_, fun s c hne => (ss_cons (s_setO 2 S.nd (xn_lst (xa_cons (y_ix (K := K) rfl rfl (XE.p (x_var 1)) (XE.p x_int)) xa_nil))) (ss_cons (s_for (passes_of rfl) rfl (xi_r1 (by rfl) Z.z_range (XE.p (x_bin op_sub ops_sub (XE.p (y_len (K := K) rfl rfl (by rfl) Z.z_len  bt_len (xps_cons (XE.p (x_var 1)) xps_nil))) (XE.p x_int)))) (xg_name 3 S.nd) (ss_one (s_app rfl 2 (x_call (c_place_at.mono (by decide)) hne ⟨rfl, rfl, rfl, rfl, rfl⟩ hgu hr (xa_cons (x_var 0) (xa_cons (y_ix (K := K) rfl rfl (xp_var 2) (XE.p (x_un un_neg uns_neg (XE.p x_int)))) xa_nil)))))) (ss_one (s_frz 2 (s_ret (x_var 2))))))⟩
theorem ok_place_along {P : Program} {w : World} {K : PySem.W.Frag} {mg : Str → Option Value} {base : Heap} {xr : XR} {f : Addr} {fd : FuncData} (F : Fun K "place_along" "place_along" st_place_along f fd) (Z : ZZ mg)  : FnG P w K mg base 1 f fd ["places", "many", "step", "number"] (SpD K xr 4 m_place_along) :=
  fnD_of F sc_place_along rfl fun cdv A outer s0 H E hgu hr => by
    haveI : Inhabited Shared := ⟨s0⟩
    have hu1 := rm1 hr
    have hu64 := rm64 hr
    have hu65 := rm65 hr
    have S := sc_place_along
    exact ⟨_, fun s c hne => (ss_cons (s_par2 rfl S.nd (xm_v (x_bin op_fdivW ops_fdiv (XE.p (x_var 3)) (XE.p (x_var 1))) (xm_v (x_bin op_mod ops_mod (XE.p (x_var 3)) (XE.p (x_var 1))) xm_nil)) (by decide)) (ss_one (s_ret (y_add (K := K) rfl rfl (XE.p (y_ix (K := K) rfl rfl (XE.p (x_var 0)) (XE.p (x_var 5)))) (XE.p (y_mul (K := K) rfl rfl (XE.p (x_var 4)) (XE.p (x_var 2))))))))⟩
theorem ok_row_lines {P : Program} {w : World} {K : PySem.W.Frag} {mg : Str → Option Value} {base : Heap} {xr : XR} {f : Addr} {fd : FuncData} (F : Fun K "row_lines" "row_lines" st_row_lines f fd) (Z : ZZ mg) (c_rounds_told : CalD P w K mg base xr 3 "rounds_told" 1 m_rounds_told) (c_round_places : CalD P w K mg base xr 2 "round_places" 2 m_round_places) (c_place_along : CalD P w K mg base xr 1 "place_along" 4 m_place_along) : FnG P w K mg base 4 f fd ["window", "rest", "by"] (SpD K xr 3 m_row_lines) :=
  fnD_of F sc_row_lines rfl fun cdv A outer s0 H E hgu hr => by
    haveI : Inhabited Shared := ⟨s0⟩
    have hu1 := rm1 hr
    have hu64 := rm64 hr
    have hu65 := rm65 hr
    have S := sc_row_lines
    exact ⟨_, fun s c hne => (ss_cons (s_parT (is := [3, 4]) (by decide) rfl (xm_v (y_len (K := K) rfl rfl (by rfl) Z.z_len  bt_len (xps_cons (XE.p (x_var 0)) xps_nil)) (xm_o xn_dK xm_nil)) (pg_tup rfl (pgs_cons (pg_name (i := 3) S.nd rfl (by first | exact .inl rfl | exact .inr rfl) (by first | exact .inl rfl | exact .inr rfl)) (pgs_cons (pg_name (i := 4) S.nd rfl (by first | exact .inl rfl | exact .inr rfl) (by first | exact .inl rfl | exact .inr rfl)) pgs_nil)))) (ss_cons (s_for (passes_of rfl) rfl (yi_tup (K := K) rfl rfl (x_call (c_rounds_told.mono (by decide)) hne ⟨rfl, rfl, rfl, rfl, rfl⟩ hgu hr (xa_cons (x_var 0) xa_nil))) (yg_tup (K := K) rfl rfl (by rfl) (xgs_cons (xg_name 5 S.nd) (xgs_cons (xg_name 6 S.nd) xgs_nil))) (ss_cons (s_par2 rfl S.nd (xm_v (x_call (c_round_places.mono (by decide)) hne ⟨rfl, rfl, rfl, rfl, rfl⟩ hgu hr (xa_cons (x_var 0) (xa_cons (x_var 5) xa_nil))) (xm_v (y_mul (K := K) rfl rfl (XE.p (x_var 6)) (XE.p (x_var 3))) xm_nil)) (by decide)) (ss_one (s_for (passes_of rfl) rfl (yi_enumT (K := K) rfl rfl (by rfl) Z.z_enumerate (x_var 5)) (yg_tup (K := K) rfl rfl (by rfl) (xgs_cons (xg_name 9 S.nd) (xgs_cons (xg_name 10 S.nd) xgs_nil))) (ss_cons (s_set 11 S.nd (x_call (c_place_along.mono (by decide)) hne ⟨rfl, rfl, rfl, rfl, rfl⟩ hgu hr (xa_cons (x_var 7) (xa_cons (y_len (K := K) rfl rfl (by rfl) Z.z_len  bt_len (xps_cons (XE.p (x_var 5)) xps_nil)) (xa_cons (x_var 8) (xa_cons (y_add (K := K) rfl rfl (XE.p (x_var 9)) (XE.p (x_var 1))) xa_nil)))))) (ss_one (s_put hu1 4 (x_var 10) (x_tup (xa_cons (y_mul (K := K) rfl rfl (XE.p (x_bin op_fdivW ops_fdiv (XE.p (x_var 2)) (XE.p (y_len (K := K) rfl rfl (by rfl) Z.z_len  bt_len (xps_cons (XE.p (x_var 5)) xps_nil))))) (XE.p (x_var 8))) (xa_cons (x_bin op_sub ops_sub (XE.p (y_add (K := K) rfl rfl (XE.p (x_var 11)) (XE.p (x_var 10)))) (XE.p (y_ix (K := K) rfl rfl (XE.p (x_var 7)) (XE.p (x_var 9))))) xa_nil)))))))))) (ss_one (s_ret (y_tuple (K := K) rfl rfl (by rfl) Z.z_tuple  bt_tuple (xps_cons (XN.p (xn_lc (own := [("one", 10)]) rfl S.nd (xi_r1 (by rfl) Z.z_range (XE.p (x_var 3))) (blkOk_by (N := N_row_lines) (sc := defScope st_row_lines) (by decide +kernel)) (fun _ _ _ _ _ => (xg_name 10 S.nd)) (fun _ _ _ _ _ => xts_nil) (fun _ _ _ _ _ => (x_dget hu1 (xp_var 4) (XE.p (x_var 10)))))) xps_nil))))))⟩
theorem ok_powers_told {P : Program} {w : World} {K : PySem.W.Frag} {mg : Str → Option Value} {base : Heap} {xr : XR} {f : Addr} {fd : FuncData} (F : Fun K "powers_told" "powers_told" st_powers_told f fd) (Z : ZZ mg) (c_cells_common : CalD P w K mg base xr 4 "cells_common" 1 m_cells_common) (c_row_lines : CalD P w K mg base xr 4 "row_lines" 3 m_row_lines) (c_least_rows : CalD P w K mg base xr 3 "least_rows" 1 m_least_rows) (c_not_long : CalD P w K mg base xr 2 "not_long" 1 m_not_long) : FnG P w K mg base 5 f fd ["window"] (SpD K xr 1 m_powers_told) :=
  fnD_of F sc_powers_told rfl fun cdv A outer s0 H E hgu hr => by
    haveI : Inhabited Shared := ⟨s0⟩
    have hu1 := rm1 hr
    have hu64 := rm64 hr
    have hu65 := rm65 hr
    have S := sc_powers_told
    exact ⟨_, fun s c hne => (ss_cons (s_set 1 S.nd (x_call (c_cells_common.mono (by decide)) hne ⟨rfl, rfl, rfl, rfl, rfl⟩ hgu hr (xa_cons (x_var 0) xa_nil))) (ss_cons (s_unp (x_call (c_least_rows.mono (by decide)) hne ⟨rfl, rfl, rfl, rfl, rfl⟩ hgu hr (xa_cons (XN.e (xn_lc (own := [("rest", 6)]) rfl S.nd (xi_r1 (by rfl) Z.z_range (XE.p (x_var 1))) (blkOk_by (N := N_powers_told) (sc := defScope st_powers_told) (by decide +kernel)) (fun _ _ _ _ _ => (xg_name 6 S.nd)) (fun _ _ _ _ _ => xts_nil) (fun _ _ _ _ _ => (x_call (c_row_lines.mono (by decide)) hne ⟨rfl, rfl, rfl, rfl, rfl⟩ hgu hr (xa_cons (x_var 0) (xa_cons (x_var 6) (xa_cons (x_var 1) xa_nil))))))) xa_nil)) (yg_tup (K := K) rfl rfl (by rfl) (xgs_cons (xg_name 2 S.nd) (xgs_cons (xg_name 3 S.nd) xgs_nil)))) (ss_cons (s_for (passes_of rfl) rfl (yi_tup (K := K) rfl rfl (x_var 3)) (xg_name 4 S.nd) (ss_one (s_for (passes_of rfl) rfl (yi_tup (K := K) rfl rfl (x_var 4)) (xg_name 5 S.nd) (ss_one (s_expr (x_call (c_not_long.mono (by decide)) hne ⟨rfl, rfl, rfl, rfl, rfl⟩ hgu hr (xa_cons (x_var 5) xa_nil))))))) (ss_one (s_ret (x_tup (xa_cons (x_var 2) (xa_cons (x_var 3) xa_nil))))))))⟩
theorem ok_law_of {P : Program} {w : World} {K : PySem.W.Frag} {mg : Str → Option Value} {base : Heap} {xr : XR} {f : Addr} {fd : FuncData} (F : Fun K "_law_of" "_law_of" st_law_of f fd) (Z : ZZ mg) (c_law_pick : CalD P w K mg base xr 1 "_law_pick" 2 m_law_pick) : FnG P w K mg base 2 f fd ["source", "some"] (SpD K xr 2 m_law_of) :=
  fnD_of F sc_law_of rfl fun cdv A outer s0 H E hgu hr => by
    haveI : Inhabited Shared := ⟨s0⟩
    have hu1 := rm1 hr
    have hu64 := rm64 hr
    have hu65 := rm65 hr
    have S := sc_law_of
    exact ⟨_, fun s c hne => (ss_one (s_ret (y_ix (K := K) rfl rfl (XE.p (x_var 1)) (XE.p (x_call (c_law_pick.mono (by decide)) hne ⟨rfl, rfl, rfl, rfl, rfl⟩ hgu hr (xa_tok 0 (xa_cons (y_len (K := K) rfl rfl (by rfl) Z.z_len  bt_len (xps_cons (XE.p (x_var 1)) xps_nil)) xa_nil)))))))⟩
theorem ok_law_far {P : Program} {w : World} {K : PySem.W.Frag} {mg : Str → Option Value} {base : Heap} {xr : XR} {f : Addr} {fd : FuncData} (F : Fun K "_law_far" "_law_far" st_law_far f fd) (Z : ZZ mg) (c_law_of : CalD P w K mg base xr 2 "_law_of" 2 m_law_of) (c_law_pick : CalD P w K mg base xr 1 "_law_pick" 2 m_law_pick) : FnG P w K mg base 3 f fd ["source"] (SpD K xr 1 m_law_far) :=
  fnD_of F sc_law_far rfl fun cdv A outer s0 H E hgu hr => by
    haveI : Inhabited Shared := ⟨s0⟩
    have hu1 := rm1 hr
    have hu64 := rm64 hr
    have hu65 := rm65 hr
    have S := sc_law_far
    exact ⟨_, fun s c hne => (ss_cons (s_set 1 S.nd (x_call (c_law_of.mono (by decide)) hne ⟨rfl, rfl, rfl, rfl, rfl⟩ hgu hr (xa_tok 0 (xa_cons (XN.e (xn_lst (xa_cons x_int (xa_cons (x_bin op_pow ops_pow (XE.p x_int) (XE.p x_int)) (xa_cons (x_ct callr_int calls_int (by rfl) Z.z_int  bt_int (xps_cons (XE.p (x_bin op_mul_str ops_mulS (XE.p x_str) (XE.p x_int))) xps_nil)) (xa_cons (x_ct callr_int calls_int (by rfl) Z.z_int  bt_int (xps_cons (XE.p (y_add (K := K) rfl rfl (XE.p x_str) (XE.p (x_bin op_mul_str ops_mulS (XE.p x_str) (XE.p x_int))))) xps_nil)) (xa_cons (x_ct callr_int calls_int (by rfl) Z.z_int  bt_int (xps_cons (XE.p (x_bin op_mul_str ops_mulS (XE.p x_str) (XE.p x_int))) xps_nil)) xa_nil))))))) xa_nil)))) (ss_one (s_ret (y_mul (K := K) rfl rfl (XE.p (x_call (c_law_of.mono (by decide)) hne ⟨rfl, rfl, rfl, rfl, rfl⟩ hgu hr (xa_tok 0 (xa_cons (XN.e (xn_lst (xa_cons x_int (xa_cons (x_un un_neg uns_neg (XE.p x_int)) xa_nil)))) xa_nil)))) (XE.p (y_add (K := K) rfl rfl (XE.p (x_var 1)) (XE.p (x_call (c_law_pick.mono (by decide)) hne ⟨rfl, rfl, rfl, rfl, rfl⟩ hgu hr (xa_tok 0 (xa_cons x_int xa_nil))))))))))⟩
theorem ok_law_at {P : Program} {w : World} {K : PySem.W.Frag} {mg : Str → Option Value} {base : Heap} {xr : XR} {f : Addr} {fd : FuncData} (F : Fun K "_law_at" "_law_at" st_law_at f fd) (Z : ZZ mg)  : FnG P w K mg base 1 f fd ["window", "x"] (SpD K xr 2 m_law_at) :=
  fnD_of F sc_law_at rfl fun cdv A outer s0 H E hgu hr => by
    haveI : Inhabited Shared := ⟨s0⟩
    have hu1 := rm1 hr
    have hu64 := rm64 hr
    have hu65 := rm65 hr
    have S := sc_law_at
    exact ⟨_, fun s c hne => (ss_cons (s_set 2 S.nd (y_len (K := K) rfl rfl (by rfl) Z.z_len  bt_len (xps_cons (XE.p (x_var 0)) xps_nil))) (ss_cons (s_set 3 S.nd (x_bin op_mod ops_mod (XE.p (x_ct callr_int calls_int (by rfl) Z.z_int  bt_int (xps_cons (XE.p (x_var 1)) xps_nil))) (XE.p (x_var 2)))) (ss_one (s_ret (x_bin op_sub ops_sub (XE.p (y_add (K := K) rfl rfl (XE.p (y_ix (K := K) rfl rfl (XE.p (x_var 0)) (XE.p (x_var 3)))) (XE.p (x_var 1)))) (XE.p (x_var 3)))))))⟩
theorem ok_power_told {P : Program} {w : World} {K : PySem.W.Frag} {mg : Str → Option Value} {base : Heap} {xr : XR} {f : Addr} {fd : FuncData} (F : Fun K "power_told" "power_told" st_power_told f fd) (Z : ZZ mg) (c_rounds_told : CalD P w K mg base xr 3 "rounds_told" 1 m_rounds_told) (c_round_places : CalD P w K mg base xr 2 "round_places" 2 m_round_places) (c_place_along : CalD P w K mg base xr 1 "place_along" 4 m_place_along) (c_window_made : CalD P w K mg base xr 3 "window_made" 1 m_window_made) : FnG P w K mg base 4 f fd ["window", "number"] (SpD K xr 2 m_power_told) :=
  fnD_of F sc_power_told rfl fun cdv A outer s0 H E hgu hr => by
    haveI : Inhabited Shared := ⟨s0⟩
    have hu1 := rm1 hr
    have hu64 := rm64 hr
    have hu65 := rm65 hr
    have S := sc_power_told
    exact ⟨_, fun s c hne => (ss_cons (s_parT (is := [2, 3]) (by decide) rfl (xm_v (y_len (K := K) rfl rfl (by rfl) Z.z_len  bt_len (xps_cons (XE.p (x_var 0)) xps_nil)) (xm_o xn_dK xm_nil)) (pg_tup rfl (pgs_cons (pg_name (i := 2) S.nd rfl (by first | exact .inl rfl | exact .inr rfl) (by first | exact .inl rfl | exact .inr rfl)) (pgs_cons (pg_name (i := 3) S.nd rfl (by first | exact .inl rfl | exact .inr rfl) (by first | exact .inl rfl | exact .inr rfl)) pgs_nil)))) (ss_cons (s_for (passes_of rfl) rfl (yi_tup (K := K) rfl rfl (x_call (c_rounds_told.mono (by decide)) hne ⟨rfl, rfl, rfl, rfl, rfl⟩ hgu hr (xa_cons (x_var 0) xa_nil))) (yg_tup (K := K) rfl rfl (by rfl) (xgs_cons (xg_name 4 S.nd) (xgs_cons (xg_name 5 S.nd) xgs_nil))) (ss_cons (s_set 6 S.nd (x_call (c_round_places.mono (by decide)) hne ⟨rfl, rfl, rfl, rfl, rfl⟩ hgu hr (xa_cons (x_var 0) (xa_cons (x_var 4) xa_nil)))) (ss_one (s_for (passes_of rfl) rfl (yi_enumT (K := K) rfl rfl (by rfl) Z.z_enumerate (x_var 4)) (yg_tup (K := K) rfl rfl (by rfl) (xgs_cons (xg_name 7 S.nd) (xgs_cons (xg_name 8 S.nd) xgs_nil))) (ss_cons (s_set 9 S.nd (x_call (c_place_along.mono (by decide)) hne ⟨rfl, rfl, rfl, rfl, rfl⟩ hgu hr (xa_cons (x_var 6) (xa_cons (y_len (K := K) rfl rfl (by rfl) Z.z_len  bt_len (xps_cons (XE.p (x_var 4)) xps_nil)) (xa_cons (y_mul (K := K) rfl rfl (XE.p (x_var 5)) (XE.p (x_var 2))) (xa_cons (y_add (K := K) rfl rfl (XE.p (x_var 7)) (XE.p (x_var 1))) xa_nil)))))) (ss_one (s_put hu1 3 (x_var 8) (x_bin op_sub ops_sub (XE.p (y_add (K := K) rfl rfl (XE.p (x_var 9)) (XE.p (x_var 8)))) (XE.p (y_ix (K := K) rfl rfl (XE.p (x_var 6)) (XE.p (x_var 7)))))))))))) (ss_one (s_ret (x_call (c_window_made.mono (by decide)) hne ⟨rfl, rfl, rfl, rfl, rfl⟩ hgu hr (xa_cons (y_tuple (K := K) rfl rfl (by rfl) Z.z_tuple  bt_tuple (xps_cons (XN.p (xn_lc (own := [("rest", 8)]) rfl S.nd (xi_r1 (by rfl) Z.z_range (XE.p (x_var 2))) (blkOk_by (N := N_power_told) (sc := defScope st_power_told) (by decide +kernel)) (fun _ _ _ _ _ => (xg_name 8 S.nd)) (fun _ _ _ _ _ => xts_nil) (fun _ _ _ _ _ => (x_dget hu1 (xp_var 3) (XE.p (x_var 8)))))) xps_nil)) xa_nil))))))⟩
theorem ok_law_on {P : Program} {w : World} {K : PySem.W.Frag} {mg : Str → Option Value} {base : Heap} {xr : XR} {f : Addr} {fd : FuncData} (F : Fun K "_law_on" "_law_on" st_law_on f fd) (Z : ZZ mg) (c_law_at : CalD P w K mg base xr 1 "_law_at" 2 m_law_at) : FnG P w K mg base 2 f fd ["one", "other"] (SpD K xr 2 m_law_on) :=
  fnD_of F sc_law_on rfl fun cdv A outer s0 H E hgu hr => by
    haveI : Inhabited Shared := ⟨s0⟩
    have hu1 := rm1 hr
    have hu64 := rm64 hr
    have hu65 := rm65 hr
    have S := sc_law_on
    exact ⟨_, fun s c hne => (ss_one (s_ret (y_tuple (K := K) rfl rfl (by rfl) Z.z_tuple  bt_tuple (xps_cons (XN.p (xn_lc (own := [("x", 2)]) rfl S.nd (yi_tup (K := K) rfl rfl (x_var 1)) (blkOk_by (N := N_law_on) (sc := defScope st_law_on) (by decide +kernel)) (fun _ _ _ _ _ => (xg_name 2 S.nd)) (fun _ _ _ _ _ => xts_nil) (fun _ _ _ _ _ => (x_call (c_law_at.mono (by decide)) hne ⟨rfl, rfl, rfl, rfl, rfl⟩ hgu hr (xa_cons (x_var 0) (xa_cons (x_var 2) xa_nil)))))) xps_nil))))⟩
theorem ok_law_undone {P : Program} {w : World} {K : PySem.W.Frag} {mg : Str → Option Value} {base : Heap} {xr : XR} {f : Addr} {fd : FuncData} (F : Fun K "_law_undone" "_law_undone" st_law_undone f fd) (Z : ZZ mg)  : FnG P w K mg base 1 f fd ["window"] (SpD K xr 1 m_law_undone) :=
  fnD_of F sc_law_undone rfl fun cdv A outer s0 H E hgu hr => by
    haveI : Inhabited Shared := ⟨s0⟩
    have hu1 := rm1 hr
    have hu64 := rm64 hr
    have hu65 := rm65 hr
    have S := sc_law_undone
    exact ⟨_, fun s c hne => (ss_cons (s_parT (is := [1, 2]) (by decide) rfl (xm_v (y_len (K := K) rfl rfl (by rfl) Z.z_len  bt_len (xps_cons (XE.p (x_var 0)) xps_nil)) (xm_o xn_dK xm_nil)) (pg_tup rfl (pgs_cons (pg_name (i := 1) S.nd rfl (by first | exact .inl rfl | exact .inr rfl) (by first | exact .inl rfl | exact .inr rfl)) (pgs_cons (pg_name (i := 2) S.nd rfl (by first | exact .inl rfl | exact .inr rfl) (by first | exact .inl rfl | exact .inr rfl)) pgs_nil)))) (ss_cons (s_for (passes_of rfl) rfl (yi_enumT (K := K) rfl rfl (by rfl) Z.z_enumerate (x_var 0)) (yg_tup (K := K) rfl rfl (by rfl) (xgs_cons (xg_name 3 S.nd) (xgs_cons (xg_name 4 S.nd) xgs_nil))) (ss_cons (s_set 5 S.nd (x_bin op_mod ops_mod (XE.p (x_ct callr_int calls_int (by rfl) Z.z_int  bt_int (xps_cons (XE.p (x_var 4)) xps_nil))) (XE.p (x_var 1)))) (ss_one (s_put hu1 2 (x_var 5) (x_bin op_sub ops_sub (XE.p (x_var 3)) (XE.p (x_bin op_sub ops_sub (XE.p (x_var 4)) (XE.p (x_var 5))))))))) (ss_one (s_ret (y_tuple (K := K) rfl rfl (by rfl) Z.z_tuple  bt_tuple (xps_cons (XN.p (xn_lc (own := [("rest", 5)]) rfl S.nd (xi_r1 (by rfl) Z.z_range (XE.p (x_var 1))) (blkOk_by (N := N_law_undone) (sc := defScope st_law_undone) (by decide +kernel)) (fun _ _ _ _ _ => (xg_name 5 S.nd)) (fun _ _ _ _ _ => xts_nil) (fun _ _ _ _ _ => (x_dget hu1 (xp_var 2) (XE.p (x_var 5)))))) xps_nil))))))⟩
theorem ok_law_led {P : Program} {w : World} {K : PySem.W.Frag} {mg : Str → Option Value} {base : Heap} {xr : XR} {f : Addr} {fd : FuncData} (F : Fun K "_law_led" "_law_led" st_law_led f fd) (Z : ZZ mg) (c_law_at : CalD P w K mg base xr 1 "_law_at" 2 m_law_at) : FnG P w K mg base 2 f fd ["window", "x", "times"] (SpD K xr 3 m_law_led) :=
  fnD_of F sc_law_led rfl fun cdv A outer s0 H E hgu hr => by
    haveI : Inhabited Shared := ⟨s0⟩
    have hu1 := rm1 hr
    have hu64 := rm64 hr
    have hu65 := rm65 hr
    have S := sc_law_led
    exact ⟨_, fun s c hne => (ss_cons (s_par2 rfl S.nd (xm_v (y_len (K := K) rfl rfl (by rfl) Z.z_len  bt_len (xps_cons (XE.p (x_var 0)) xps_nil)) (xm_o (xn_lst (xa_cons (x_var 1) xa_nil)) xm_nil)) (by decide)) (ss_cons (s_for (passes_of rfl) rfl (xi_r1 (by rfl) Z.z_range (XE.p (y_len (K := K) rfl rfl (by rfl) Z.z_len  bt_len (xps_cons (XE.p (x_var 0)) xps_nil)))) (xg_name 5 S.nd) (ss_one (s_if (XW.t (xw_or (yt_eq (K := K) hu65 rfl rfl (XE.p (y_len (K := K) rfl rfl (by rfl) Z.z_len  bt_len (xps_cons (xp_var 4) xps_nil))) (XE.p x_int)) (xw_or1 (yt_ne (K := K) hu65 rfl rfl (XE.p (x_bin op_mod ops_mod (XE.p (x_ct callr_int calls_int (by rfl) Z.z_int  bt_int (xps_cons (XE.p (x_bin op_sub ops_sub (XE.p (y_ix (K := K) rfl rfl (xp_var 4) (XE.p (x_un un_neg uns_neg (XE.p x_int))))) (XE.p (x_var 1)))) xps_nil))) (XE.p (x_var 3)))) (XE.p x_int))))) (ss_one (s_app rfl 4 (x_call (c_law_at.mono (by decide)) hne ⟨rfl, rfl, rfl, rfl, rfl⟩ hgu hr (xa_cons (x_var 0) (xa_cons (y_ix (K := K) rfl rfl (xp_var 4) (XE.p (x_un un_neg uns_neg (XE.p x_int)))) xa_nil))))) ss_nil))) (ss_cons (s_par2 rfl S.nd (xm_v (x_bin op_sub ops_sub (XE.p (y_len (K := K) rfl rfl (by rfl) Z.z_len  bt_len (xps_cons (xp_var 4) xps_nil))) (XE.p x_int)) (xm_v (x_bin op_sub ops_sub (XE.p (y_ix (K := K) rfl rfl (xp_var 4) (XE.p (x_un un_neg uns_neg (XE.p x_int))))) (XE.p (x_var 1))) xm_nil)) (by decide)) (ss_cons (s_set 8 S.nd (x_bin op_mod ops_mod (XE.p (x_ct callr_int calls_int (by rfl) Z.z_int  bt_int (xps_cons (XE.p (x_var 2)) xps_nil))) (XE.p (x_var 6)))) (ss_one (s_ret (y_add (K := K) rfl rfl (XE.p (y_ix (K := K) rfl rfl (xp_var 4) (XE.p (x_var 8)))) (XE.p (y_mul (K := K) rfl rfl (XE.p (x_var 7)) (XE.p (x_bin op_fdivW ops_fdiv (XE.p (x_bin op_sub ops_sub (XE.p (x_var 2)) (XE.p (x_var 8)))) (XE.p (x_var 6)))))))))))))⟩
theorem ok_window_on {P : Program} {w : World} {K : PySem.W.Frag} {mg : Str → Option Value} {base : Heap} {xr : XR} {f : Addr} {fd : FuncData} (F : Fun K "window_on" "window_on" st_window_on f fd) (Z : ZZ mg) (c_place_at : CalD P w K mg base xr 1 "place_at" 2 m_place_at) (c_window_made : CalD P w K mg base xr 3 "window_made" 1 m_window_made) : FnG P w K mg base 4 f fd ["one", "other"] (SpD K xr 2 m_window_on) :=
  fnD_of F sc_window_on rfl fun cdv A outer s0 H E hgu hr => by
    haveI : Inhabited Shared := ⟨s0⟩
    have hu1 := rm1 hr
    have hu64 := rm64 hr
    have hu65 := rm65 hr
    have S := sc_window_on
    exact ⟨_, fun s c hne => (ss_one (s_ret (x_call (c_window_made.mono (by decide)) hne ⟨rfl, rfl, rfl, rfl, rfl⟩ hgu hr (xa_cons (y_tuple (K := K) rfl rfl (by rfl) Z.z_tuple  bt_tuple (xps_cons (XN.p (xn_lc (own := [("number", 2)]) rfl S.nd (yi_tup (K := K) rfl rfl (x_var 1)) (blkOk_by (N := N_window_on) (sc := defScope st_window_on) (by decide +kernel)) (fun _ _ _ _ _ => (xg_name 2 S.nd)) (fun _ _ _ _ _ => xts_nil) (fun _ _ _ _ _ => (x_call (c_place_at.mono (by decide)) hne ⟨rfl, rfl, rfl, rfl, rfl⟩ hgu hr (xa_cons (x_var 0) (xa_cons (x_var 2) xa_nil)))))) xps_nil)) xa_nil))))⟩
theorem ok_line_at {P : Program} {w : World} {K : PySem.W.Frag} {mg : Str → Option Value} {base : Heap} {xr : XR} {f : Addr} {fd : FuncData} (F : Fun K "line_at" "line_at" st_line_at f fd) (Z : ZZ mg)  : FnG P w K mg base 1 f fd ["line", "t"] (SpD K xr 2 m_line_at) :=
  fnD_of F sc_line_at rfl fun cdv A outer s0 H E hgu hr => by
    haveI : Inhabited Shared := ⟨s0⟩
    have hu1 := rm1 hr
    have hu64 := rm64 hr
    have hu65 := rm65 hr
    have S := sc_line_at
    exact ⟨_, fun s c hne => (ss_one (s_ret (y_add (K := K) rfl rfl (XE.p (y_mul (K := K) rfl rfl (XE.p (y_ix (K := K) rfl rfl (XE.p (x_var 0)) (XE.p x_int))) (XE.p (x_var 1)))) (XE.p (y_ix (K := K) rfl rfl (XE.p (x_var 0)) (XE.p x_int))))))⟩
theorem ok_law {P : Program} {w : World} {K : PySem.W.Frag} {mg : Str → Option Value} {base : Heap} {xr : XR} {f fS : Addr} {fd fdS : FuncData} (F : Fun K "law" "law" st_law f fd) (Z : ZZ mg) (Fs : FnG P w K mg base 1 fS fdS ["script"] (SpSrc K)) (gS : mg "_law_source" = some (.ref fS)) (kS : PySem.W.keepIn K (.ref fS) = true) (bS : Binds K fdS ["script"] []) (c_law_pick : CalD P w K mg base xr 1 "_law_pick" 2 m_law_pick) (c_law_of : CalD P w K mg base xr 2 "_law_of" 2 m_law_of) (c_law_window : CalD P w K mg base xr 3 "_law_window" 3 m_law_window) (c_window_undone : CalD P w K mg base xr 4 "window_undone" 1 m_window_undone) (c_law_undone : CalD P w K mg base xr 1 "_law_undone" 1 m_law_undone) (c_law_far : CalD P w K mg base xr 3 "_law_far" 1 m_law_far) (c_law_at : CalD P w K mg base xr 1 "_law_at" 2 m_law_at) (c_place_at : CalD P w K mg base xr 1 "place_at" 2 m_place_at) (c_place_back : CalD P w K mg base xr 1 "place_back" 2 m_place_back) (c_not_long : CalD P w K mg base xr 2 "not_long" 1 m_not_long) (c_powers_told : CalD P w K mg base xr 5 "powers_told" 1 m_powers_told) (c_law_led : CalD P w K mg base xr 2 "_law_led" 3 m_law_led) (c_power_told : CalD P w K mg base xr 4 "power_told" 2 m_power_told) (c_line_at : CalD P w K mg base xr 1 "line_at" 2 m_line_at) (c_window_on : CalD P w K mg base xr 4 "window_on" 2 m_window_on) (c_law_on : CalD P w K mg base xr 2 "_law_on" 2 m_law_on) (hkept : ∀ ns : List Int, ns.length ≤ 63 → Kept 17 b_law ns) : FnG P w K mg base 6 f fd ["script"] (SpLaw K) := by
  refine fnG_of F sc_law (fun vs H Q E h => ?_) fun cdv A outer s0 H vs Q E hgu hr h => ?_
  · obtain ⟨a, ns, rfl, _⟩ := h
    rfl
  · obtain ⟨a, ns, rfl, hS, hl, q⟩ := h
    haveI : Inhabited Shared := ⟨s0⟩
    have hu1 := rm1 hr
    have hu64 := rm64 hr
    have hu65 := rm65 hr
    have S := sc_law
    obtain ⟨t, ht⟩ : ∃ t, ∀ s c : Addr, s ≠ c → XSs (bodyX P w K mg base N_law "law" st_law f cdv A outer s0 H E) (Cw K xr (wE E) s c) (defBody st_law).tail t b_law := ⟨_, fun s c hne => (ss_cons (s_set 2 S.nd (y_add (K := K) rfl rfl (XE.p x_int) (XE.p (x_call (c_law_pick.mono (by decide)) hne ⟨rfl, rfl, rfl, rfl, rfl⟩ hgu hr (xa_tok 1 (xa_cons x_int xa_nil)))))) (ss_cons (s_set 3 S.nd (x_call (c_law_window.mono (by decide)) hne ⟨rfl, rfl, rfl, rfl, rfl⟩ hgu hr (xa_tok 1 (xa_cons (x_var 2) (xa_cons (x_call (c_law_of.mono (by decide)) hne ⟨rfl, rfl, rfl, rfl, rfl⟩ hgu hr (xa_tok 1 (xa_cons (XN.e (xn_lst (xa_cons x_int (xa_cons x_int (xa_cons (x_bin op_pow ops_pow (XE.p x_int) (XE.p x_int)) xa_nil))))) xa_nil))) xa_nil))))) (ss_cons (s_set 4 S.nd (x_call (c_window_undone.mono (by decide)) hne ⟨rfl, rfl, rfl, rfl, rfl⟩ hgu hr (xa_cons (x_var 3) xa_nil))) (ss_cons (s_if (yt_ne (K := K) hu65 rfl rfl (XE.p (y_repr (K := K) rfl rfl (by rfl) Z.z_repr hgu hu64 bt_repr (xps_cons (XE.p (x_var 4)) xps_nil))) (XE.p (y_repr (K := K) rfl rfl (by rfl) Z.z_repr hgu hu64 bt_repr (xps_cons (XE.p (x_call (c_law_undone.mono (by decide)) hne ⟨rfl, rfl, rfl, rfl, rfl⟩ hgu hr (xa_cons (x_var 3) xa_nil))) xps_nil)))) (ss_one (s_ret x_bl)) ss_nil) (ss_cons (s_for (passes_of rfl) rfl (xi_r1 (by rfl) Z.z_range (XE.p x_int)) (xg_name 5 S.nd) (ss_cons (s_set 6 S.nd (x_call (c_law_far.mono (by decide)) hne ⟨rfl, rfl, rfl, rfl, rfl⟩ hgu hr (xa_tok 1 xa_nil))) (ss_cons (s_set 7 S.nd (x_call (c_law_at.mono (by decide)) hne ⟨rfl, rfl, rfl, rfl, rfl⟩ hgu hr (xa_cons (x_var 3) (xa_cons (x_var 6) xa_nil)))) (ss_cons (s_if (XW.t (xw_or (yt_ne (K := K) hu65 rfl rfl (XE.p (x_call (c_place_at.mono (by decide)) hne ⟨rfl, rfl, rfl, rfl, rfl⟩ hgu hr (xa_cons (x_var 3) (xa_cons (x_var 6) xa_nil)))) (XE.p (x_var 7))) (xw_or (yt_ne (K := K) hu65 rfl rfl (XE.p (x_call (c_place_back.mono (by decide)) hne ⟨rfl, rfl, rfl, rfl, rfl⟩ hgu hr (xa_cons (x_var 3) (xa_cons (x_var 7) xa_nil)))) (XE.p (x_var 6))) (xw_or1 (yt_ne (K := K) hu65 rfl rfl (XE.p (x_call (c_place_at.mono (by decide)) hne ⟨rfl, rfl, rfl, rfl, rfl⟩ hgu hr (xa_cons (x_var 4) (xa_cons (x_var 7) xa_nil)))) (XE.p (x_var 6))))))) (ss_one (s_ret x_bl)) ss_nil) (ss_one (s_if (XW.t (xw_or (yt_ne (K := K) hu65 rfl rfl (XE.p (x_call (c_place_back.mono (by decide)) hne ⟨rfl, rfl, rfl, rfl, rfl⟩ hgu hr (xa_cons (x_var 3) (xa_cons (x_var 6) xa_nil)))) (XE.p (x_call (c_law_at.mono (by decide)) hne ⟨rfl, rfl, rfl, rfl, rfl⟩ hgu hr (xa_cons (x_var 4) (xa_cons (x_var 6) xa_nil))))) (xw_or1 (yt_ne (K := K) hu65 rfl rfl (XE.p (x_call (c_not_long.mono (by decide)) hne ⟨rfl, rfl, rfl, rfl, rfl⟩ hgu hr (xa_cons (x_tup (xa_cons (x_var 7) xa_nil)) xa_nil))) (XE.p (x_tup (xa_cons (x_var 7) xa_nil))))))) (ss_one (s_ret x_bl)) ss_nil)))))) (ss_cons (s_unp (x_call (c_powers_told.mono (by decide)) hne ⟨rfl, rfl, rfl, rfl, rfl⟩ hgu hr (xa_cons (x_var 3) xa_nil)) (yg_tup (K := K) rfl rfl (by rfl) (xgs_cons (xg_name 8 S.nd) (xgs_cons (xg_name 9 S.nd) xgs_nil)))) (ss_cons (s_if (XW.t (xw_or (yt_ne (K := K) hu65 rfl rfl (XE.p (y_len (K := K) rfl rfl (by rfl) Z.z_len  bt_len (xps_cons (XE.p (x_var 9)) xps_nil))) (XE.p (x_var 8))) (xw_or1 (yt_ne (K := K) hu65 rfl rfl (XN.p (xn_lc (own := [("row", 15)]) rfl S.nd (yi_tup (K := K) rfl rfl (x_var 9)) (blkOk_by (N := N_law) (sc := defScope st_law) (by decide +kernel)) (fun _ _ _ _ _ => (xg_name 15 S.nd)) (fun _ _ _ _ _ => (xts_one (yt_ne (K := K) hu65 rfl rfl (XE.p (y_len (K := K) rfl rfl (by rfl) Z.z_len  bt_len (xps_cons (XE.p (x_var 15)) xps_nil))) (XE.p (x_var 2))))) (fun _ _ _ _ _ => (x_var 15)))) (XN.p (xn_lst xa_nil)))))) (ss_one (s_ret x_bl)) ss_nil) (ss_cons (s_for (passes_of rfl) rfl (xi_r1 (by rfl) Z.z_range (XE.p x_int)) (xg_name 5 S.nd) (ss_cons (s_set 10 S.nd (x_if (xt_cmp op_gt ops_cmpI (XE.p (x_var 5)) (XE.p x_int)) (x_call (c_law_far.mono (by decide)) hne ⟨rfl, rfl, rfl, rfl, rfl⟩ hgu hr (xa_tok 1 xa_nil)) (x_bin op_sub ops_sub (XE.p (x_call (c_law_pick.mono (by decide)) hne ⟨rfl, rfl, rfl, rfl, rfl⟩ hgu hr (xa_tok 1 (xa_cons x_int xa_nil)))) (XE.p x_int)))) (ss_cons (s_set 7 S.nd (y_tuple (K := K) rfl rfl (by rfl) Z.z_tuple  bt_tuple (xps_cons (XN.p (xn_lc (own := [("x", 6)]) rfl S.nd (xi_r1 (by rfl) Z.z_range (XE.p (x_var 2))) (blkOk_by (N := N_law) (sc := defScope st_law) (by decide +kernel)) (fun _ _ _ _ _ => (xg_name 6 S.nd)) (fun _ _ _ _ _ => xts_nil) (fun _ _ _ _ _ => (x_call (c_law_led.mono (by decide)) hne ⟨rfl, rfl, rfl, rfl, rfl⟩ hgu hr (xa_cons (x_var 3) (xa_cons (x_var 6) (xa_cons (x_var 10) xa_nil))))))) xps_nil))) (ss_cons (s_set 11 S.nd (x_call (c_power_told.mono (by decide)) hne ⟨rfl, rfl, rfl, rfl, rfl⟩ hgu hr (xa_cons (x_var 3) (xa_cons (x_var 10) xa_nil)))) (ss_cons (s_if (yt_ne (K := K) hu65 rfl rfl (XE.p (y_repr (K := K) rfl rfl (by rfl) Z.z_repr hgu hu64 bt_repr (xps_cons (XE.p (x_var 11)) xps_nil))) (XE.p (y_repr (K := K) rfl rfl (by rfl) Z.z_repr hgu hu64 bt_repr (xps_cons (XE.p (x_var 7)) xps_nil)))) (ss_one (s_ret x_bl)) ss_nil) (ss_cons (s_set 12 S.nd (x_bin op_mod ops_mod (XE.p (x_ct callr_int calls_int (by rfl) Z.z_int  bt_int (xps_cons (XE.p (x_var 10)) xps_nil))) (XE.p (x_var 8)))) (ss_cons (s_if (yt_ne (K := K) hu65 rfl rfl (XE.p (y_tuple (K := K) rfl rfl (by rfl) Z.z_tuple  bt_tuple (xps_cons (XN.p (xn_lc (own := [("line", 16)]) rfl S.nd (yi_tup (K := K) rfl rfl (y_ix (K := K) rfl rfl (XE.p (x_var 9)) (XE.p (x_var 12)))) (blkOk_by (N := N_law) (sc := defScope st_law) (by decide +kernel)) (fun _ _ _ _ _ => (xg_name 16 S.nd)) (fun _ _ _ _ _ => xts_nil) (fun _ _ _ _ _ => (x_call (c_line_at.mono (by decide)) hne ⟨rfl, rfl, rfl, rfl, rfl⟩ hgu hr (xa_cons (x_var 16) (xa_cons (x_bin op_fdivW ops_fdiv (XE.p (x_bin op_sub ops_sub (XE.p (x_var 10)) (XE.p (x_var 12)))) (XE.p (x_var 8))) xa_nil)))))) xps_nil))) (XE.p (x_var 7))) (ss_one (s_ret x_bl)) ss_nil) (ss_cons (s_set 6 S.nd (x_call (c_law_far.mono (by decide)) hne ⟨rfl, rfl, rfl, rfl, rfl⟩ hgu hr (xa_tok 1 xa_nil))) (ss_cons (s_if (XW.t (xw_or (yt_ne (K := K) hu65 rfl rfl (XE.p (x_call (c_place_at.mono (by decide)) hne ⟨rfl, rfl, rfl, rfl, rfl⟩ hgu hr (xa_cons (x_var 11) (xa_cons (x_var 6) xa_nil)))) (XE.p (x_call (c_law_led.mono (by decide)) hne ⟨rfl, rfl, rfl, rfl, rfl⟩ hgu hr (xa_cons (x_var 3) (xa_cons (x_var 6) (xa_cons (x_var 10) xa_nil)))))) (xw_or1 (yt_ne (K := K) hu65 rfl rfl (XE.p (x_call (c_place_back.mono (by decide)) hne ⟨rfl, rfl, rfl, rfl, rfl⟩ hgu hr (xa_cons (x_var 11) (xa_cons (x_call (c_place_at.mono (by decide)) hne ⟨rfl, rfl, rfl, rfl, rfl⟩ hgu hr (xa_cons (x_var 11) (xa_cons (x_var 6) xa_nil))) xa_nil)))) (XE.p (x_var 6)))))) (ss_one (s_ret x_bl)) ss_nil) (ss_cons (s_set 13 S.nd (x_bin op_sub ops_sub (XE.p (x_call (c_law_pick.mono (by decide)) hne ⟨rfl, rfl, rfl, rfl, rfl⟩ hgu hr (xa_tok 1 (xa_cons x_int xa_nil)))) (XE.p x_int))) (ss_one (s_if (yt_ne (K := K) hu65 rfl rfl (XE.p (y_repr (K := K) rfl rfl (by rfl) Z.z_repr hgu hu64 bt_repr (xps_cons (XE.p (x_call (c_window_on.mono (by decide)) hne ⟨rfl, rfl, rfl, rfl, rfl⟩ hgu hr (xa_cons (x_call (c_power_told.mono (by decide)) hne ⟨rfl, rfl, rfl, rfl, rfl⟩ hgu hr (xa_cons (x_var 3) (xa_cons (x_var 13) xa_nil))) (xa_cons (x_call (c_power_told.mono (by decide)) hne ⟨rfl, rfl, rfl, rfl, rfl⟩ hgu hr (xa_cons (x_var 3) (xa_cons (x_bin op_sub ops_sub (XE.p (x_var 10)) (XE.p (x_var 13))) xa_nil))) xa_nil)))) xps_nil))) (XE.p (y_repr (K := K) rfl rfl (by rfl) Z.z_repr hgu hu64 bt_repr (xps_cons (XE.p (x_var 11)) xps_nil)))) (ss_one (s_ret x_bl)) ss_nil)))))))))))) (ss_cons (s_set 14 S.nd (x_trg (by rfl) (by rfl) Z.z_tuple (xrg1 (by rfl) Z.z_range (XE.p (x_var 2))))) (ss_cons (s_for (passes_of rfl) rfl (xi_r1 (by rfl) Z.z_range (XE.p x_int)) (xg_name 10 S.nd) (ss_cons (s_if (XW.t (xw_or (yt_ne (K := K) hu65 rfl rfl (XE.p (y_repr (K := K) rfl rfl (by rfl) Z.z_repr hgu hu64 bt_repr (xps_cons (XE.p (x_call (c_power_told.mono (by decide)) hne ⟨rfl, rfl, rfl, rfl, rfl⟩ hgu hr (xa_cons (x_var 3) (xa_cons (x_var 10) xa_nil)))) xps_nil))) (XE.p (y_repr (K := K) rfl rfl (by rfl) Z.z_repr hgu hu64 bt_repr (xps_cons (XE.p (x_var 14)) xps_nil)))) (xw_or1 (yt_ne (K := K) hu65 rfl rfl (XE.p (y_repr (K := K) rfl rfl (by rfl) Z.z_repr hgu hu64 bt_repr (xps_cons (XE.p (x_call (c_power_told.mono (by decide)) hne ⟨rfl, rfl, rfl, rfl, rfl⟩ hgu hr (xa_cons (x_var 4) (xa_cons (x_var 10) xa_nil)))) xps_nil))) (XE.p (y_repr (K := K) rfl rfl (by rfl) Z.z_repr hgu hu64 bt_repr (xps_cons (XE.p (x_call (c_law_undone.mono (by decide)) hne ⟨rfl, rfl, rfl, rfl, rfl⟩ hgu hr (xa_cons (x_var 14) xa_nil))) xps_nil))))))) (ss_one (s_ret x_bl)) ss_nil) (ss_one (s_set 14 S.nd (x_call (c_law_on.mono (by decide)) hne ⟨rfl, rfl, rfl, rfl, rfl⟩ hgu hr (xa_cons (x_var 3) (xa_cons (x_var 14) xa_nil))))))) (ss_one (s_ret x_bl))))))))))))⟩
    exact ⟨_, pss_cons (ps_set (i := 1) S.nd rfl (by first | exact .inl rfl | exact .inr rfl) (pe_callG (Fs.mono (by decide)) hgu hr (by rfl) gS kS bS takes0 (pa_cons (pv 0) pa_nil))) (ht 0 1 (by decide)).ps, law_sem (by decide) (fun s c hne => (ht s c hne).s) hS hl (hkept ns hl) q⟩
/-! ### what the top has written -/
theorem all_mk {l : PySem.W.OpenLaw} {w : World} {K : PySem.W.Frag} {h : Heap} {mg : Str → Option Value} {fa : Addr} (X : K.In h) (G : h.Ns mainGlobals mg) (hfa : mg "law" = some (.ref fa))
    {f0 : Addr} {od0 an0 : Option Addr} {sl0 : Array (Option Value)} {oc0 kV0 dc0 pm0 cd0 ct0 : Value}
    {f1 : Addr} {od1 an1 : Option Addr} {sl1 : Array (Option Value)} {oc1 kV1 dc1 pm1 cd1 ct1 : Value}
    {f2 : Addr} {od2 an2 : Option Addr} {sl2 : Array (Option Value)} {oc2 kV2 dc2 pm2 cd2 ct2 : Value}
    {f3 : Addr} {od3 an3 : Option Addr} {sl3 : Array (Option Value)} {oc3 kV3 dc3 pm3 cd3 ct3 : Value}
    {f4 : Addr} {od4 an4 : Option Addr} {sl4 : Array (Option Value)} {oc4 kV4 dc4 pm4 cd4 ct4 : Value}
    {f5 : Addr} {od5 an5 : Option Addr} {sl5 : Array (Option Value)} {oc5 kV5 dc5 pm5 cd5 ct5 : Value}
    {f6 : Addr} {od6 an6 : Option Addr} {sl6 : Array (Option Value)} {oc6 kV6 dc6 pm6 cd6 ct6 : Value}
    {f7 : Addr} {od7 an7 : Option Addr} {sl7 : Array (Option Value)} {oc7 kV7 dc7 pm7 cd7 ct7 : Value}
    {f8 : Addr} {od8 an8 : Option Addr} {sl8 : Array (Option Value)} {oc8 kV8 dc8 pm8 cd8 ct8 : Value}
    {f9 : Addr} {od9 an9 : Option Addr} {sl9 : Array (Option Value)} {oc9 kV9 dc9 pm9 cd9 ct9 : Value}
    {f10 : Addr} {od10 an10 : Option Addr} {sl10 : Array (Option Value)} {oc10 kV10 dc10 pm10 cd10 ct10 : Value}
    {f11 : Addr} {od11 an11 : Option Addr} {sl11 : Array (Option Value)} {oc11 kV11 dc11 pm11 cd11 ct11 : Value}
    {f12 : Addr} {od12 an12 : Option Addr} {sl12 : Array (Option Value)} {oc12 kV12 dc12 pm12 cd12 ct12 : Value}
    {f13 : Addr} {od13 an13 : Option Addr} {sl13 : Array (Option Value)} {oc13 kV13 dc13 pm13 cd13 ct13 : Value}
    {f14 : Addr} {od14 an14 : Option Addr} {sl14 : Array (Option Value)} {oc14 kV14 dc14 pm14 cd14 ct14 : Value}
    {f15 : Addr} {od15 an15 : Option Addr} {sl15 : Array (Option Value)} {oc15 kV15 dc15 pm15 cd15 ct15 : Value}
    {f16 : Addr} {od16 an16 : Option Addr} {sl16 : Array (Option Value)} {oc16 kV16 dc16 pm16 cd16 ct16 : Value}
    {f17 : Addr} {od17 an17 : Option Addr} {sl17 : Array (Option Value)} {oc17 kV17 dc17 pm17 cd17 ct17 : Value}
    {f18 : Addr} {od18 an18 : Option Addr} {sl18 : Array (Option Value)} {oc18 kV18 dc18 pm18 cd18 ct18 : Value}
    {f19 : Addr} {od19 an19 : Option Addr} {sl19 : Array (Option Value)} {oc19 kV19 dc19 pm19 cd19 ct19 : Value}
    {f20 : Addr} {od20 an20 : Option Addr} {sl20 : Array (Option Value)} {oc20 kV20 dc20 pm20 cd20 ct20 : Value}
    {f21 : Addr} {od21 an21 : Option Addr} {sl21 : Array (Option Value)} {oc21 kV21 dc21 pm21 cd21 ct21 : Value}
    {f22 : Addr} {od22 an22 : Option Addr} {sl22 : Array (Option Value)} {oc22 kV22 dc22 pm22 cd22 ct22 : Value}
    {f23 : Addr} {od23 an23 : Option Addr} {sl23 : Array (Option Value)} {oc23 kV23 dc23 pm23 cd23 ct23 : Value}
    {f24 : Addr} {od24 an24 : Option Addr} {sl24 : Array (Option Value)} {oc24 kV24 dc24 pm24 cd24 ct24 : Value}
    {f25 : Addr} {od25 an25 : Option Addr} {sl25 : Array (Option Value)} {oc25 kV25 dc25 pm25 cd25 ct25 : Value}
    {f26 : Addr} {od26 an26 : Option Addr} {sl26 : Array (Option Value)} {oc26 kV26 dc26 pm26 cd26 ct26 : Value}
    {f27 : Addr} {od27 an27 : Option Addr} {sl27 : Array (Option Value)} {oc27 kV27 dc27 pm27 cd27 ct27 : Value}
    {f28 : Addr} {od28 an28 : Option Addr} {sl28 : Array (Option Value)} {oc28 kV28 dc28 pm28 cd28 ct28 : Value}
    {f29 : Addr} {od29 an29 : Option Addr} {sl29 : Array (Option Value)} {oc29 kV29 dc29 pm29 cd29 ct29 : Value}
    {f30 : Addr} {od30 an30 : Option Addr} {sl30 : Array (Option Value)} {oc30 kV30 dc30 pm30 cd30 ct30 : Value}
    {f31 : Addr} {od31 an31 : Option Addr} {sl31 : Array (Option Value)} {oc31 kV31 dc31 pm31 cd31 ct31 : Value}
    {t_MOST_FIGURES : Tok}
    {t_SURE_BITS : Tok}
    (hkept : ∀ ns : List Int, ns.length ≤ 63 → Kept 17 b_law ns)
    (a0 : PySem.W.nsIn K mainGlobals "_law_source" = some (some (.ref f0))) (l0 : K.lookup f0 = some ⟨oc0, od0, .func (PySem.W.fnOf "_law_source" "_law_source" (defArgs st_law_source) (defBody st_law_source) (defScope st_law_source) .none kV0 dc0 pm0 an0 cd0 ct0), sl0⟩) (c0 : PySem.W.codeIn K cd0 "_law_source" = true) (k0 : PySem.W.keepIn K (.ref f0) = true)
    (a1 : PySem.W.nsIn K mainGlobals "_law_pick" = some (some (.ref f1))) (l1 : K.lookup f1 = some ⟨oc1, od1, .func (PySem.W.fnOf "_law_pick" "_law_pick" (defArgs st_law_pick) (defBody st_law_pick) (defScope st_law_pick) .none kV1 dc1 pm1 an1 cd1 ct1), sl1⟩) (c1 : PySem.W.codeIn K cd1 "_law_pick" = true) (k1 : PySem.W.keepIn K (.ref f1) = true)
    (a2 : PySem.W.nsIn K mainGlobals "_law_mixed" = some (some (.ref f2))) (l2 : K.lookup f2 = some ⟨oc2, od2, .func (PySem.W.fnOf "_law_mixed" "_law_mixed" (defArgs st_law_mixed) (defBody st_law_mixed) (defScope st_law_mixed) .none kV2 dc2 pm2 an2 cd2 ct2), sl2⟩) (c2 : PySem.W.codeIn K cd2 "_law_mixed" = true) (k2 : PySem.W.keepIn K (.ref f2) = true)
    (a3 : PySem.W.nsIn K mainGlobals "_law_window" = some (some (.ref f3))) (l3 : K.lookup f3 = some ⟨oc3, od3, .func (PySem.W.fnOf "_law_window" "_law_window" (defArgs st_law_window) (defBody st_law_window) (defScope st_law_window) .none kV3 dc3 pm3 an3 cd3 ct3), sl3⟩) (c3 : PySem.W.codeIn K cd3 "_law_window" = true) (k3 : PySem.W.keepIn K (.ref f3) = true)
    (a4 : PySem.W.nsIn K mainGlobals "is_long" = some (some (.ref f4))) (l4 : K.lookup f4 = some ⟨oc4, od4, .func (PySem.W.fnOf "is_long" "is_long" (defArgs st_is_long) (defBody st_is_long) (defScope st_is_long) .none kV4 dc4 pm4 an4 cd4 ct4), sl4⟩) (c4 : PySem.W.codeIn K cd4 "is_long" = true) (k4 : PySem.W.keepIn K (.ref f4) = true)
    (a5 : PySem.W.nsIn K mainGlobals "not_long" = some (some (.ref f5))) (l5 : K.lookup f5 = some ⟨oc5, od5, .func (PySem.W.fnOf "not_long" "not_long" (defArgs st_not_long) (defBody st_not_long) (defScope st_not_long) .none kV5 dc5 pm5 an5 cd5 ct5), sl5⟩) (c5 : PySem.W.codeIn K cd5 "not_long" = true) (k5 : PySem.W.keepIn K (.ref f5) = true)
    (a6 : PySem.W.nsIn K mainGlobals "window_made" = some (some (.ref f6))) (l6 : K.lookup f6 = some ⟨oc6, od6, .func (PySem.W.fnOf "window_made" "window_made" (defArgs st_window_made) (defBody st_window_made) (defScope st_window_made) .none kV6 dc6 pm6 an6 cd6 ct6), sl6⟩) (c6 : PySem.W.codeIn K cd6 "window_made" = true) (k6 : PySem.W.keepIn K (.ref f6) = true)
    (a7 : PySem.W.nsIn K mainGlobals "place_back" = some (some (.ref f7))) (l7 : K.lookup f7 = some ⟨oc7, od7, .func (PySem.W.fnOf "place_back" "place_back" (defArgs st_place_back) (defBody st_place_back) (defScope st_place_back) .none kV7 dc7 pm7 an7 cd7 ct7), sl7⟩) (c7 : PySem.W.codeIn K cd7 "place_back" = true) (k7 : PySem.W.keepIn K (.ref f7) = true)
    (a8 : PySem.W.nsIn K mainGlobals "window_undone" = some (some (.ref f8))) (l8 : K.lookup f8 = some ⟨oc8, od8, .func (PySem.W.fnOf "window_undone" "window_undone" (defArgs st_window_undone) (defBody st_window_undone) (defScope st_window_undone) .none kV8 dc8 pm8 an8 cd8 ct8), sl8⟩) (c8 : PySem.W.codeIn K cd8 "window_undone" = true) (k8 : PySem.W.keepIn K (.ref f8) = true)
    (a9 : PySem.W.nsIn K mainGlobals "place_at" = some (some (.ref f9))) (l9 : K.lookup f9 = some ⟨oc9, od9, .func (PySem.W.fnOf "place_at" "place_at" (defArgs st_place_at) (defBody st_place_at) (defScope st_place_at) .none kV9 dc9 pm9 an9 cd9 ct9), sl9⟩) (c9 : PySem.W.codeIn K cd9 "place_at" = true) (k9 : PySem.W.keepIn K (.ref f9) = true)
    (a10 : PySem.W.nsIn K mainGlobals "round_from" = some (some (.ref f10))) (l10 : K.lookup f10 = some ⟨oc10, od10, .func (PySem.W.fnOf "round_from" "round_from" (defArgs st_round_from) (defBody st_round_from) (defScope st_round_from) .none kV10 dc10 pm10 an10 cd10 ct10), sl10⟩) (c10 : PySem.W.codeIn K cd10 "round_from" = true) (k10 : PySem.W.keepIn K (.ref f10) = true)
    (a11 : PySem.W.nsIn K mainGlobals "rounds_told" = some (some (.ref f11))) (l11 : K.lookup f11 = some ⟨oc11, od11, .func (PySem.W.fnOf "rounds_told" "rounds_told" (defArgs st_rounds_told) (defBody st_rounds_told) (defScope st_rounds_told) .none kV11 dc11 pm11 an11 cd11 ct11), sl11⟩) (c11 : PySem.W.codeIn K cd11 "rounds_told" = true) (k11 : PySem.W.keepIn K (.ref f11) = true)
    (a12 : PySem.W.nsIn K mainGlobals "least_common" = some (some (.ref f12))) (l12 : K.lookup f12 = some ⟨oc12, od12, .func (PySem.W.fnOf "least_common" "least_common" (defArgs st_least_common) (defBody st_least_common) (defScope st_least_common) .none kV12 dc12 pm12 an12 cd12 ct12), sl12⟩) (c12 : PySem.W.codeIn K cd12 "least_common" = true) (k12 : PySem.W.keepIn K (.ref f12) = true)
    (a13 : PySem.W.nsIn K mainGlobals "cells_common" = some (some (.ref f13))) (l13 : K.lookup f13 = some ⟨oc13, od13, .func (PySem.W.fnOf "cells_common" "cells_common" (defArgs st_cells_common) (defBody st_cells_common) (defScope st_cells_common) .none kV13 dc13 pm13 an13 cd13 ct13), sl13⟩) (c13 : PySem.W.codeIn K cd13 "cells_common" = true) (k13 : PySem.W.keepIn K (.ref f13) = true)
    (a14 : PySem.W.nsIn K mainGlobals "divisors_told" = some (some (.ref f14))) (l14 : K.lookup f14 = some ⟨oc14, od14, .func (PySem.W.fnOf "divisors_told" "divisors_told" (defArgs st_divisors_told) (defBody st_divisors_told) (defScope st_divisors_told) .none kV14 dc14 pm14 an14 cd14 ct14), sl14⟩) (c14 : PySem.W.codeIn K cd14 "divisors_told" = true) (k14 : PySem.W.keepIn K (.ref f14) = true)
    (a15 : PySem.W.nsIn K mainGlobals "line_sum" = some (some (.ref f15))) (l15 : K.lookup f15 = some ⟨oc15, od15, .func (PySem.W.fnOf "line_sum" "line_sum" (defArgs st_line_sum) (defBody st_line_sum) (defScope st_line_sum) .none kV15 dc15 pm15 an15 cd15 ct15), sl15⟩) (c15 : PySem.W.codeIn K cd15 "line_sum" = true) (k15 : PySem.W.keepIn K (.ref f15) = true)
    (a16 : PySem.W.nsIn K mainGlobals "lines_whole" = some (some (.ref f16))) (l16 : K.lookup f16 = some ⟨oc16, od16, .func (PySem.W.fnOf "lines_whole" "lines_whole" (defArgs st_lines_whole) (defBody st_lines_whole) (defScope st_lines_whole) .none kV16 dc16 pm16 an16 cd16 ct16), sl16⟩) (c16 : PySem.W.codeIn K cd16 "lines_whole" = true) (k16 : PySem.W.keepIn K (.ref f16) = true)
    (a17 : PySem.W.nsIn K mainGlobals "least_rows" = some (some (.ref f17))) (l17 : K.lookup f17 = some ⟨oc17, od17, .func (PySem.W.fnOf "least_rows" "least_rows" (defArgs st_least_rows) (defBody st_least_rows) (defScope st_least_rows) .none kV17 dc17 pm17 an17 cd17 ct17), sl17⟩) (c17 : PySem.W.codeIn K cd17 "least_rows" = true) (k17 : PySem.W.keepIn K (.ref f17) = true)
    (a18 : PySem.W.nsIn K mainGlobals "round_places" = some (some (.ref f18))) (l18 : K.lookup f18 = some ⟨oc18, od18, .func (PySem.W.fnOf "round_places" "round_places" (defArgs st_round_places) (defBody st_round_places) (defScope st_round_places) .none kV18 dc18 pm18 an18 cd18 ct18), sl18⟩) (c18 : PySem.W.codeIn K cd18 "round_places" = true) (k18 : PySem.W.keepIn K (.ref f18) = true)
    (a19 : PySem.W.nsIn K mainGlobals "place_along" = some (some (.ref f19))) (l19 : K.lookup f19 = some ⟨oc19, od19, .func (PySem.W.fnOf "place_along" "place_along" (defArgs st_place_along) (defBody st_place_along) (defScope st_place_along) .none kV19 dc19 pm19 an19 cd19 ct19), sl19⟩) (c19 : PySem.W.codeIn K cd19 "place_along" = true) (k19 : PySem.W.keepIn K (.ref f19) = true)
    (a20 : PySem.W.nsIn K mainGlobals "row_lines" = some (some (.ref f20))) (l20 : K.lookup f20 = some ⟨oc20, od20, .func (PySem.W.fnOf "row_lines" "row_lines" (defArgs st_row_lines) (defBody st_row_lines) (defScope st_row_lines) .none kV20 dc20 pm20 an20 cd20 ct20), sl20⟩) (c20 : PySem.W.codeIn K cd20 "row_lines" = true) (k20 : PySem.W.keepIn K (.ref f20) = true)
    (a21 : PySem.W.nsIn K mainGlobals "powers_told" = some (some (.ref f21))) (l21 : K.lookup f21 = some ⟨oc21, od21, .func (PySem.W.fnOf "powers_told" "powers_told" (defArgs st_powers_told) (defBody st_powers_told) (defScope st_powers_told) .none kV21 dc21 pm21 an21 cd21 ct21), sl21⟩) (c21 : PySem.W.codeIn K cd21 "powers_told" = true) (k21 : PySem.W.keepIn K (.ref f21) = true)
    (a22 : PySem.W.nsIn K mainGlobals "_law_of" = some (some (.ref f22))) (l22 : K.lookup f22 = some ⟨oc22, od22, .func (PySem.W.fnOf "_law_of" "_law_of" (defArgs st_law_of) (defBody st_law_of) (defScope st_law_of) .none kV22 dc22 pm22 an22 cd22 ct22), sl22⟩) (c22 : PySem.W.codeIn K cd22 "_law_of" = true) (k22 : PySem.W.keepIn K (.ref f22) = true)
    (a23 : PySem.W.nsIn K mainGlobals "_law_far" = some (some (.ref f23))) (l23 : K.lookup f23 = some ⟨oc23, od23, .func (PySem.W.fnOf "_law_far" "_law_far" (defArgs st_law_far) (defBody st_law_far) (defScope st_law_far) .none kV23 dc23 pm23 an23 cd23 ct23), sl23⟩) (c23 : PySem.W.codeIn K cd23 "_law_far" = true) (k23 : PySem.W.keepIn K (.ref f23) = true)
    (a24 : PySem.W.nsIn K mainGlobals "_law_at" = some (some (.ref f24))) (l24 : K.lookup f24 = some ⟨oc24, od24, .func (PySem.W.fnOf "_law_at" "_law_at" (defArgs st_law_at) (defBody st_law_at) (defScope st_law_at) .none kV24 dc24 pm24 an24 cd24 ct24), sl24⟩) (c24 : PySem.W.codeIn K cd24 "_law_at" = true) (k24 : PySem.W.keepIn K (.ref f24) = true)
    (a25 : PySem.W.nsIn K mainGlobals "power_told" = some (some (.ref f25))) (l25 : K.lookup f25 = some ⟨oc25, od25, .func (PySem.W.fnOf "power_told" "power_told" (defArgs st_power_told) (defBody st_power_told) (defScope st_power_told) .none kV25 dc25 pm25 an25 cd25 ct25), sl25⟩) (c25 : PySem.W.codeIn K cd25 "power_told" = true) (k25 : PySem.W.keepIn K (.ref f25) = true)
    (a26 : PySem.W.nsIn K mainGlobals "_law_on" = some (some (.ref f26))) (l26 : K.lookup f26 = some ⟨oc26, od26, .func (PySem.W.fnOf "_law_on" "_law_on" (defArgs st_law_on) (defBody st_law_on) (defScope st_law_on) .none kV26 dc26 pm26 an26 cd26 ct26), sl26⟩) (c26 : PySem.W.codeIn K cd26 "_law_on" = true) (k26 : PySem.W.keepIn K (.ref f26) = true)
    (a27 : PySem.W.nsIn K mainGlobals "_law_undone" = some (some (.ref f27))) (l27 : K.lookup f27 = some ⟨oc27, od27, .func (PySem.W.fnOf "_law_undone" "_law_undone" (defArgs st_law_undone) (defBody st_law_undone) (defScope st_law_undone) .none kV27 dc27 pm27 an27 cd27 ct27), sl27⟩) (c27 : PySem.W.codeIn K cd27 "_law_undone" = true) (k27 : PySem.W.keepIn K (.ref f27) = true)
    (a28 : PySem.W.nsIn K mainGlobals "_law_led" = some (some (.ref f28))) (l28 : K.lookup f28 = some ⟨oc28, od28, .func (PySem.W.fnOf "_law_led" "_law_led" (defArgs st_law_led) (defBody st_law_led) (defScope st_law_led) .none kV28 dc28 pm28 an28 cd28 ct28), sl28⟩) (c28 : PySem.W.codeIn K cd28 "_law_led" = true) (k28 : PySem.W.keepIn K (.ref f28) = true)
    (a29 : PySem.W.nsIn K mainGlobals "window_on" = some (some (.ref f29))) (l29 : K.lookup f29 = some ⟨oc29, od29, .func (PySem.W.fnOf "window_on" "window_on" (defArgs st_window_on) (defBody st_window_on) (defScope st_window_on) .none kV29 dc29 pm29 an29 cd29 ct29), sl29⟩) (c29 : PySem.W.codeIn K cd29 "window_on" = true) (k29 : PySem.W.keepIn K (.ref f29) = true)
    (a30 : PySem.W.nsIn K mainGlobals "line_at" = some (some (.ref f30))) (l30 : K.lookup f30 = some ⟨oc30, od30, .func (PySem.W.fnOf "line_at" "line_at" (defArgs st_line_at) (defBody st_line_at) (defScope st_line_at) .none kV30 dc30 pm30 an30 cd30 ct30), sl30⟩) (c30 : PySem.W.codeIn K cd30 "line_at" = true) (k30 : PySem.W.keepIn K (.ref f30) = true)
    (a31 : PySem.W.nsIn K mainGlobals "law" = some (some (.ref f31))) (l31 : K.lookup f31 = some ⟨oc31, od31, .func (PySem.W.fnOf "law" "law" (defArgs st_law) (defBody st_law) (defScope st_law) .none kV31 dc31 pm31 an31 cd31 ct31), sl31⟩) (c31 : PySem.W.codeIn K cd31 "law" = true) (k31 : PySem.W.keepIn K (.ref f31) = true)
    (z_len : PySem.W.nsIn K mainGlobals "len" = some none)
    (z_max : PySem.W.nsIn K mainGlobals "max" = some none)
    (z_int : PySem.W.nsIn K mainGlobals "int" = some none)
    (z_range : PySem.W.nsIn K mainGlobals "range" = some none)
    (z_list : PySem.W.nsIn K mainGlobals "list" = some none)
    (z_tuple : PySem.W.nsIn K mainGlobals "tuple" = some none)
    (z_abs : PySem.W.nsIn K mainGlobals "abs" = some none)
    (z_str : PySem.W.nsIn K mainGlobals "str" = some none)
    (z_MOST_FIGURES : PySem.W.nsIn K mainGlobals "MOST_FIGURES" = some (some (.int 300 t_MOST_FIGURES)))
    (z_SURE_BITS : PySem.W.nsIn K mainGlobals "SURE_BITS" = some (some (.int 997 t_SURE_BITS)))
    (z_any : PySem.W.nsIn K mainGlobals "any" = some none)
    (z_dict : PySem.W.nsIn K mainGlobals "dict" = some none)
    (z_gcd : PySem.W.nsIn K mainGlobals "gcd" = some (some (.builtin "math.gcd")))
    (z_enumerate : PySem.W.nsIn K mainGlobals "enumerate" = some none)
    (z_all : PySem.W.nsIn K mainGlobals "all" = some none)
    (z_repr : PySem.W.nsIn K mainGlobals "repr" = some none)
    : ∃ fd : FuncData, (∀ (s : Shared) (v : Value), BindsTo s fd ⟨[v], []⟩ [("script", v)]) ∧ ∀ base : Heap, K.In base → base.Ns mainGlobals mg → FnG l.prog w K mg base 6 fa fd ["script"] (SpLaw K) := by
  have e := hfa.symm.trans (PySem.W.mg_of X G a31)
  cases e
  have Z : ZZ mg := ⟨PySem.W.mg_none_of X G z_len, PySem.W.mg_none_of X G z_max, PySem.W.mg_none_of X G z_int, PySem.W.mg_none_of X G z_range, PySem.W.mg_none_of X G z_list, PySem.W.mg_none_of X G z_tuple, PySem.W.mg_none_of X G z_abs, PySem.W.mg_none_of X G z_str, ⟨_, PySem.W.mg_of X G z_MOST_FIGURES⟩, ⟨_, PySem.W.mg_of X G z_SURE_BITS⟩, PySem.W.mg_none_of X G z_any, PySem.W.mg_none_of X G z_dict, PySem.W.mg_of X G z_gcd, PySem.W.mg_none_of X G z_enumerate, PySem.W.mg_none_of X G z_all, PySem.W.mg_none_of X G z_repr⟩
  have F0 := fun_mk (st := st_law_source) l0 c0 k0
  have b0 := F0.binds (ps := ["script"]) fun _ _ _ _ _ _ us hl => match us, hl with | [_], _ => rfl
  have F1 := fun_mk (st := st_law_pick) l1 c1 k1
  have b1 := F1.binds (ps := ["source", "many"]) fun _ _ _ _ _ _ us hl => match us, hl with | [_, _], _ => rfl
  have F2 := fun_mk (st := st_law_mixed) l2 c2 k2
  have b2 := F2.binds (ps := ["source", "things"]) fun _ _ _ _ _ _ us hl => match us, hl with | [_, _], _ => rfl
  have F3 := fun_mk (st := st_law_window) l3 c3 k3
  have b3 := F3.binds (ps := ["source", "n", "far"]) fun _ _ _ _ _ _ us hl => match us, hl with | [_, _, _], _ => rfl
  have F4 := fun_mk (st := st_is_long) l4 c4 k4
  have b4 := F4.binds (ps := ["number"]) fun _ _ _ _ _ _ us hl => match us, hl with | [_], _ => rfl
  have F5 := fun_mk (st := st_not_long) l5 c5 k5
  have b5 := F5.binds (ps := ["numbers"]) fun _ _ _ _ _ _ us hl => match us, hl with | [_], _ => rfl
  have F6 := fun_mk (st := st_window_made) l6 c6 k6
  have b6 := F6.binds (ps := ["window"]) fun _ _ _ _ _ _ us hl => match us, hl with | [_], _ => rfl
  have F7 := fun_mk (st := st_place_back) l7 c7 k7
  have b7 := F7.binds (ps := ["window", "place"]) fun _ _ _ _ _ _ us hl => match us, hl with | [_, _], _ => rfl
  have F8 := fun_mk (st := st_window_undone) l8 c8 k8
  have b8 := F8.binds (ps := ["window"]) fun _ _ _ _ _ _ us hl => match us, hl with | [_], _ => rfl
  have F9 := fun_mk (st := st_place_at) l9 c9 k9
  have b9 := F9.binds (ps := ["window", "place"]) fun _ _ _ _ _ _ us hl => match us, hl with | [_, _], _ => rfl
  have F10 := fun_mk (st := st_round_from) l10 c10 k10
  have b10 := F10.binds (ps := ["window", "rest"]) fun _ _ _ _ _ _ us hl => match us, hl with | [_, _], _ => rfl
  have F11 := fun_mk (st := st_rounds_told) l11 c11 k11
  have b11 := F11.binds (ps := ["window"]) fun _ _ _ _ _ _ us hl => match us, hl with | [_], _ => rfl
  have F12 := fun_mk (st := st_least_common) l12 c12 k12
  have b12 := F12.binds (ps := ["one", "other"]) fun _ _ _ _ _ _ us hl => match us, hl with | [_, _], _ => rfl
  have F13 := fun_mk (st := st_cells_common) l13 c13 k13
  have b13 := F13.binds (ps := ["window"]) fun _ _ _ _ _ _ us hl => match us, hl with | [_], _ => rfl
  have F14 := fun_mk (st := st_divisors_told) l14 c14 k14
  have b14 := F14.binds (ps := ["number"]) fun _ _ _ _ _ _ us hl => match us, hl with | [_], _ => rfl
  have F15 := fun_mk (st := st_line_sum) l15 c15 k15
  have b15 := F15.binds (ps := ["one", "other"]) fun _ _ _ _ _ _ us hl => match us, hl with | [_, _], _ => rfl
  have F16 := fun_mk (st := st_lines_whole) l16 c16 k16
  have b16 := F16.binds (ps := ["lines", "by", "rest"]) fun _ _ _ _ _ _ us hl => match us, hl with | [_, _, _], _ => rfl
  have F17 := fun_mk (st := st_least_rows) l17 c17 k17
  have b17 := F17.binds (ps := ["rows"]) fun _ _ _ _ _ _ us hl => match us, hl with | [_], _ => rfl
  have F18 := fun_mk (st := st_round_places) l18 c18 k18
  have b18 := F18.binds (ps := ["window", "rests"]) fun _ _ _ _ _ _ us hl => match us, hl with | [_, _], _ => rfl
  have F19 := fun_mk (st := st_place_along) l19 c19 k19
  have b19 := F19.binds (ps := ["places", "many", "step", "number"]) fun _ _ _ _ _ _ us hl => match us, hl with | [_, _, _, _], _ => rfl
  have F20 := fun_mk (st := st_row_lines) l20 c20 k20
  have b20 := F20.binds (ps := ["window", "rest", "by"]) fun _ _ _ _ _ _ us hl => match us, hl with | [_, _, _], _ => rfl
  have F21 := fun_mk (st := st_powers_told) l21 c21 k21
  have b21 := F21.binds (ps := ["window"]) fun _ _ _ _ _ _ us hl => match us, hl with | [_], _ => rfl
  have F22 := fun_mk (st := st_law_of) l22 c22 k22
  have b22 := F22.binds (ps := ["source", "some"]) fun _ _ _ _ _ _ us hl => match us, hl with | [_, _], _ => rfl
  have F23 := fun_mk (st := st_law_far) l23 c23 k23
  have b23 := F23.binds (ps := ["source"]) fun _ _ _ _ _ _ us hl => match us, hl with | [_], _ => rfl
  have F24 := fun_mk (st := st_law_at) l24 c24 k24
  have b24 := F24.binds (ps := ["window", "x"]) fun _ _ _ _ _ _ us hl => match us, hl with | [_, _], _ => rfl
  have F25 := fun_mk (st := st_power_told) l25 c25 k25
  have b25 := F25.binds (ps := ["window", "number"]) fun _ _ _ _ _ _ us hl => match us, hl with | [_, _], _ => rfl
  have F26 := fun_mk (st := st_law_on) l26 c26 k26
  have b26 := F26.binds (ps := ["one", "other"]) fun _ _ _ _ _ _ us hl => match us, hl with | [_, _], _ => rfl
  have F27 := fun_mk (st := st_law_undone) l27 c27 k27
  have b27 := F27.binds (ps := ["window"]) fun _ _ _ _ _ _ us hl => match us, hl with | [_], _ => rfl
  have F28 := fun_mk (st := st_law_led) l28 c28 k28
  have b28 := F28.binds (ps := ["window", "x", "times"]) fun _ _ _ _ _ _ us hl => match us, hl with | [_, _, _], _ => rfl
  have F29 := fun_mk (st := st_window_on) l29 c29 k29
  have b29 := F29.binds (ps := ["one", "other"]) fun _ _ _ _ _ _ us hl => match us, hl with | [_, _], _ => rfl
  have F30 := fun_mk (st := st_line_at) l30 c30 k30
  have b30 := F30.binds (ps := ["line", "t"]) fun _ _ _ _ _ _ us hl => match us, hl with | [_, _], _ => rfl
  have F31 := fun_mk (st := st_law) l31 c31 k31
  refine ⟨PySem.W.fnOf "law" "law" (defArgs st_law) (defBody st_law) (defScope st_law) .none kV31 dc31 pm31 an31 cd31 ct31, fun s v => .of_eq rfl, fun base _ _ => ?_⟩
  let xr : XR := fun _ _ _ _ _ => False
  have Fs := ok_law_source (P := l.prog) (w := w) (base := base) F0 Z.z_int Z.z_abs
  have c_law_pick : CalD l.prog w K mg base xr 1 "_law_pick" 2 m_law_pick := ⟨_, _, _, ok_law_pick F1 Z , PySem.W.mg_of X G a1, k1, b1⟩
  have c_law_mixed : CalD l.prog w K mg base xr 2 "_law_mixed" 2 m_law_mixed := ⟨_, _, _, ok_law_mixed F2 Z c_law_pick, PySem.W.mg_of X G a2, k2, b2⟩
  have c_law_window : CalD l.prog w K mg base xr 3 "_law_window" 3 m_law_window := ⟨_, _, _, ok_law_window F3 Z c_law_mixed c_law_pick, PySem.W.mg_of X G a3, k3, b3⟩
  have c_is_long : CalD l.prog w K mg base xr 1 "is_long" 1 m_is_long := ⟨_, _, _, ok_is_long F4 Z , PySem.W.mg_of X G a4, k4, b4⟩
  have c_not_long : CalD l.prog w K mg base xr 2 "not_long" 1 m_not_long := ⟨_, _, _, ok_not_long F5 Z c_is_long, PySem.W.mg_of X G a5, k5, b5⟩
  have c_window_made : CalD l.prog w K mg base xr 3 "window_made" 1 m_window_made := ⟨_, _, _, ok_window_made F6 Z c_not_long, PySem.W.mg_of X G a6, k6, b6⟩
  have c_place_back : CalD l.prog w K mg base xr 1 "place_back" 2 m_place_back := ⟨_, _, _, ok_place_back F7 Z , PySem.W.mg_of X G a7, k7, b7⟩
  have c_window_undone : CalD l.prog w K mg base xr 4 "window_undone" 1 m_window_undone := ⟨_, _, _, ok_window_undone F8 Z c_place_back c_window_made, PySem.W.mg_of X G a8, k8, b8⟩
  have c_place_at : CalD l.prog w K mg base xr 1 "place_at" 2 m_place_at := ⟨_, _, _, ok_place_at F9 Z , PySem.W.mg_of X G a9, k9, b9⟩
  have c_round_from : CalD l.prog w K mg base xr 2 "round_from" 2 m_round_from := ⟨_, _, _, ok_round_from F10 Z c_place_at, PySem.W.mg_of X G a10, k10, b10⟩
  have c_rounds_told : CalD l.prog w K mg base xr 3 "rounds_told" 1 m_rounds_told := ⟨_, _, _, ok_rounds_told F11 Z c_round_from, PySem.W.mg_of X G a11, k11, b11⟩
  have c_least_common : CalD l.prog w K mg base xr 1 "least_common" 2 m_least_common := ⟨_, _, _, ok_least_common F12 Z , PySem.W.mg_of X G a12, k12, b12⟩
  have c_cells_common : CalD l.prog w K mg base xr 4 "cells_common" 1 m_cells_common := ⟨_, _, _, ok_cells_common F13 Z c_rounds_told c_least_common, PySem.W.mg_of X G a13, k13, b13⟩
  have c_divisors_told : CalD l.prog w K mg base xr 1 "divisors_told" 1 m_divisors_told := ⟨_, _, _, ok_divisors_told F14 Z , PySem.W.mg_of X G a14, k14, b14⟩
  have c_line_sum : CalD l.prog w K mg base xr 1 "line_sum" 2 m_line_sum := ⟨_, _, _, ok_line_sum F15 Z , PySem.W.mg_of X G a15, k15, b15⟩
  have c_lines_whole : CalD l.prog w K mg base xr 2 "lines_whole" 3 m_lines_whole := ⟨_, _, _, ok_lines_whole F16 Z c_line_sum, PySem.W.mg_of X G a16, k16, b16⟩
  have c_least_rows : CalD l.prog w K mg base xr 3 "least_rows" 1 m_least_rows := ⟨_, _, _, ok_least_rows F17 Z c_lines_whole c_divisors_told, PySem.W.mg_of X G a17, k17, b17⟩
  have c_round_places : CalD l.prog w K mg base xr 2 "round_places" 2 m_round_places := ⟨_, _, _, ok_round_places F18 Z c_place_at, PySem.W.mg_of X G a18, k18, b18⟩
  have c_place_along : CalD l.prog w K mg base xr 1 "place_along" 4 m_place_along := ⟨_, _, _, ok_place_along F19 Z , PySem.W.mg_of X G a19, k19, b19⟩
  have c_row_lines : CalD l.prog w K mg base xr 4 "row_lines" 3 m_row_lines := ⟨_, _, _, ok_row_lines F20 Z c_rounds_told c_round_places c_place_along, PySem.W.mg_of X G a20, k20, b20⟩
  have c_powers_told : CalD l.prog w K mg base xr 5 "powers_told" 1 m_powers_told := ⟨_, _, _, ok_powers_told F21 Z c_cells_common c_row_lines c_least_rows c_not_long, PySem.W.mg_of X G a21, k21, b21⟩
  have c_law_of : CalD l.prog w K mg base xr 2 "_law_of" 2 m_law_of := ⟨_, _, _, ok_law_of F22 Z c_law_pick, PySem.W.mg_of X G a22, k22, b22⟩
  have c_law_far : CalD l.prog w K mg base xr 3 "_law_far" 1 m_law_far := ⟨_, _, _, ok_law_far F23 Z c_law_of c_law_pick, PySem.W.mg_of X G a23, k23, b23⟩
  have c_law_at : CalD l.prog w K mg base xr 1 "_law_at" 2 m_law_at := ⟨_, _, _, ok_law_at F24 Z , PySem.W.mg_of X G a24, k24, b24⟩
  have c_power_told : CalD l.prog w K mg base xr 4 "power_told" 2 m_power_told := ⟨_, _, _, ok_power_told F25 Z c_rounds_told c_round_places c_place_along c_window_made, PySem.W.mg_of X G a25, k25, b25⟩
  have c_law_on : CalD l.prog w K mg base xr 2 "_law_on" 2 m_law_on := ⟨_, _, _, ok_law_on F26 Z c_law_at, PySem.W.mg_of X G a26, k26, b26⟩
  have c_law_undone : CalD l.prog w K mg base xr 1 "_law_undone" 1 m_law_undone := ⟨_, _, _, ok_law_undone F27 Z , PySem.W.mg_of X G a27, k27, b27⟩
  have c_law_led : CalD l.prog w K mg base xr 2 "_law_led" 3 m_law_led := ⟨_, _, _, ok_law_led F28 Z c_law_at, PySem.W.mg_of X G a28, k28, b28⟩
  have c_window_on : CalD l.prog w K mg base xr 4 "window_on" 2 m_window_on := ⟨_, _, _, ok_window_on F29 Z c_place_at c_window_made, PySem.W.mg_of X G a29, k29, b29⟩
  have c_line_at : CalD l.prog w K mg base xr 1 "line_at" 2 m_line_at := ⟨_, _, _, ok_line_at F30 Z , PySem.W.mg_of X G a30, k30, b30⟩
  exact ok_law F31 Z Fs (PySem.W.mg_of X G a0) k0 b0 c_law_pick c_law_of c_law_window c_window_undone c_law_undone c_law_far c_law_at c_place_at c_place_back c_not_long c_powers_told c_law_led c_power_told c_line_at c_window_on c_law_on hkept
end K67

open PySem PySem.W PyProof.Rows
set_option maxHeartbeats 0 in
theorem PySem.Challenge.cw_movedalike_k67_whole_far_places_holds : PySem.Challenge.rw_movedalike_k67_whole_far_places.Holds := by
  w_on; o_law; k_head; (case hw => w_witness2)
  k_fill
  refine DL.walkG (l := PySem.Challenge.rw_movedalike_k67_whole_far_places) (k := 6) (x := "script") rfl rfl ⟨rfl, by decide, by decide⟩ (fun w h Y => PySem.W.kIn_of Y) ?F
  case F =>
    intro w mg fa h KX G hmg
    refine' K67.all_mk KX G hmg K67.kept ?a0 ?l0 ?c0 ?k0 ?a1 ?l1 ?c1 ?k1 ?a2 ?l2 ?c2 ?k2 ?a3 ?l3 ?c3 ?k3 ?a4 ?l4 ?c4 ?k4 ?a5 ?l5 ?c5 ?k5 ?a6 ?l6 ?c6 ?k6 ?a7 ?l7 ?c7 ?k7 ?a8 ?l8 ?c8 ?k8 ?a9 ?l9 ?c9 ?k9 ?a10 ?l10 ?c10 ?k10 ?a11 ?l11 ?c11 ?k11 ?a12 ?l12 ?c12 ?k12 ?a13 ?l13 ?c13 ?k13 ?a14 ?l14 ?c14 ?k14 ?a15 ?l15 ?c15 ?k15 ?a16 ?l16 ?c16 ?k16 ?a17 ?l17 ?c17 ?k17 ?a18 ?l18 ?c18 ?k18 ?a19 ?l19 ?c19 ?k19 ?a20 ?l20 ?c20 ?k20 ?a21 ?l21 ?c21 ?k21 ?a22 ?l22 ?c22 ?k22 ?a23 ?l23 ?c23 ?k23 ?a24 ?l24 ?c24 ?k24 ?a25 ?l25 ?c25 ?k25 ?a26 ?l26 ?c26 ?k26 ?a27 ?l27 ?c27 ?k27 ?a28 ?l28 ?c28 ?k28 ?a29 ?l29 ?c29 ?k29 ?a30 ?l30 ?c30 ?k30 ?a31 ?l31 ?c31 ?k31 ?z_len ?z_max ?z_int ?z_range ?z_list ?z_tuple ?z_abs ?z_str ?z_MOST_FIGURES ?z_SURE_BITS ?z_any ?z_dict ?z_gcd ?z_enumerate ?z_all ?z_repr
    (case a0 => k_is)
    (case l0 => k_is)
    (case c0 => k_is)
    (case k0 => k_is)
    (case a1 => k_is)
    (case l1 => k_is)
    (case c1 => k_is)
    (case k1 => k_is)
    (case a2 => k_is)
    (case l2 => k_is)
    (case c2 => k_is)
    (case k2 => k_is)
    (case a3 => k_is)
    (case l3 => k_is)
    (case c3 => k_is)
    (case k3 => k_is)
    (case a4 => k_is)
    (case l4 => k_is)
    (case c4 => k_is)
    (case k4 => k_is)
    (case a5 => k_is)
    (case l5 => k_is)
    (case c5 => k_is)
    (case k5 => k_is)
    (case a6 => k_is)
    (case l6 => k_is)
    (case c6 => k_is)
    (case k6 => k_is)
    (case a7 => k_is)
    (case l7 => k_is)
    (case c7 => k_is)
    (case k7 => k_is)
    (case a8 => k_is)
    (case l8 => k_is)
    (case c8 => k_is)
    (case k8 => k_is)
    (case a9 => k_is)
    (case l9 => k_is)
    (case c9 => k_is)
    (case k9 => k_is)
    (case a10 => k_is)
    (case l10 => k_is)
    (case c10 => k_is)
    (case k10 => k_is)
    (case a11 => k_is)
    (case l11 => k_is)
    (case c11 => k_is)
    (case k11 => k_is)
    (case a12 => k_is)
    (case l12 => k_is)
    (case c12 => k_is)
    (case k12 => k_is)
    (case a13 => k_is)
    (case l13 => k_is)
    (case c13 => k_is)
    (case k13 => k_is)
    (case a14 => k_is)
    (case l14 => k_is)
    (case c14 => k_is)
    (case k14 => k_is)
    (case a15 => k_is)
    (case l15 => k_is)
    (case c15 => k_is)
    (case k15 => k_is)
    (case a16 => k_is)
    (case l16 => k_is)
    (case c16 => k_is)
    (case k16 => k_is)
    (case a17 => k_is)
    (case l17 => k_is)
    (case c17 => k_is)
    (case k17 => k_is)
    (case a18 => k_is)
    (case l18 => k_is)
    (case c18 => k_is)
    (case k18 => k_is)
    (case a19 => k_is)
    (case l19 => k_is)
    (case c19 => k_is)
    (case k19 => k_is)
    (case a20 => k_is)
    (case l20 => k_is)
    (case c20 => k_is)
    (case k20 => k_is)
    (case a21 => k_is)
    (case l21 => k_is)
    (case c21 => k_is)
    (case k21 => k_is)
    (case a22 => k_is)
    (case l22 => k_is)
    (case c22 => k_is)
    (case k22 => k_is)
    (case a23 => k_is)
    (case l23 => k_is)
    (case c23 => k_is)
    (case k23 => k_is)
    (case a24 => k_is)
    (case l24 => k_is)
    (case c24 => k_is)
    (case k24 => k_is)
    (case a25 => k_is)
    (case l25 => k_is)
    (case c25 => k_is)
    (case k25 => k_is)
    (case a26 => k_is)
    (case l26 => k_is)
    (case c26 => k_is)
    (case k26 => k_is)
    (case a27 => k_is)
    (case l27 => k_is)
    (case c27 => k_is)
    (case k27 => k_is)
    (case a28 => k_is)
    (case l28 => k_is)
    (case c28 => k_is)
    (case k28 => k_is)
    (case a29 => k_is)
    (case l29 => k_is)
    (case c29 => k_is)
    (case k29 => k_is)
    (case a30 => k_is)
    (case l30 => k_is)
    (case c30 => k_is)
    (case k30 => k_is)
    (case a31 => k_is)
    (case l31 => k_is)
    (case c31 => k_is)
    (case k31 => k_is)
    (case z_len => k_is)
    (case z_max => k_is)
    (case z_int => k_is)
    (case z_range => k_is)
    (case z_list => k_is)
    (case z_tuple => k_is)
    (case z_abs => k_is)
    (case z_str => k_is)
    (case z_MOST_FIGURES => k_is)
    (case z_SURE_BITS => k_is)
    (case z_any => k_is)
    (case z_dict => k_is)
    (case z_gcd => k_is)
    (case z_enumerate => k_is)
    (case z_all => k_is)
    (case z_repr => k_is)

