import PyProof.Rows.All
import Wide.All
import OpenK.AllK
import Wide.FinOn
import KE.KStateDown
import HandS.ForMost
import HandS.Wide
import HandS.Gcd
import HandS.Conv
import HandS.HeadHook4
import HandS.Head2
import HandS.Head3
import HandS.HeadEnd
import HandS.IsInst
import HandS.Strs
import HandS.Defaults
import HandS.TupAny
import HandS.More
import HandS.HeadHook2
import HandS.SortInts
import HandS.SetFor
import HandS.HeadHook3
import HandS.Zip
import HandS.Replace
import HandS.ReplaceLit
import HandS.Text
import KE.GoesEnum
import HandS.TupMul
import PySem.Challenge.RW_wherehouse_k02_solidities_and_regions_of
set_option Elab.async false
set_option linter.all false
set_option maxRecDepth 100000
set_option maxHeartbeats 4000000
/-! Typed evaluation over the hand layer: what an expression, a block gives, as plain Lean values. -/
namespace Ty
open PySem PySem.Spec PyProof.Rows L2

abbrev Frag := PySem.W.Frag
theorem Same.rd {H H' : Hp} {a : Addr} {u : HO} (e : Same H H') (h : Rd H a u) : Rd H' a u := by
  rcases h with h | ⟨o, h⟩
  · exact .inl (e _ _ h)
  · exact .inr ⟨o, e _ _ h⟩
theorem Same.tup {K : Frag} {H H' : Hp} {a : Addr} {xs : List V} (e : Same H H') (h : SqT K H a xs) : SqT K H' a xs := by
  rcases h with h | h
  · exact .inl (Same.rd e h)
  · exact .inr h

/-! ### values at large -/
inductive U where
  | non | bl (b : Bool) | int (i : Int) | str (s : Str) | tup (l : List U) | lst (l : List U) | opq
mutual
def rpU (K : Frag) (H : Hp) : U → V → Prop
  | .non, v => v = .non
  | .bl b, v => v = .bl b
  | .int i, v => v = .int i
  | .str s, v => v = .str s
  | .tup l, v => ∃ a vs, v = .ref a ∧ SqT K H a vs ∧ rpUs K H l vs
  | .lst l, v => ∃ a vs, v = .ref a ∧ H a = some (.lst vs) ∧ rpUs K H l vs
  | .opq, _ => True
def rpUs (K : Frag) (H : Hp) : List U → List V → Prop
  | [], vs => vs = []
  | u :: us, vs => ∃ v r, vs = v :: r ∧ rpU K H u v ∧ rpUs K H us r
end
mutual
theorem rpU.mono {K : Frag} {H H' : Hp} (e : Same H H') : ∀ {u : U} {v : V}, rpU K H u v → rpU K H' u v
  | .non, _, h => h
  | .bl _, _, h => h
  | .int _, _, h => h
  | .str _, _, h => h
  | .tup _, _, ⟨a, vs, h1, h2, h3⟩ => ⟨a, vs, h1, Same.tup e h2, rpUs.mono e h3⟩
  | .lst _, _, ⟨a, vs, h1, h2, h3⟩ => ⟨a, vs, h1, e _ _ h2, rpUs.mono e h3⟩
  | .opq, _, _ => trivial
theorem rpUs.mono {K : Frag} {H H' : Hp} (e : Same H H') : ∀ {us : List U} {vs : List V}, rpUs K H us vs → rpUs K H' us vs
  | [], _, h => h
  | _ :: _, _, ⟨v, r, h1, h2, h3⟩ => ⟨v, r, h1, rpU.mono e h2, rpUs.mono e h3⟩
end
theorem rpUs.length {K : Frag} {H : Hp} : ∀ {us : List U} {vs : List V}, rpUs K H us vs → vs.length = us.length
  | [], _, h => by cases h; rfl
  | _ :: _, _, ⟨v, r, h1, _, h3⟩ => by subst h1; simp [rpUs.length h3]

/-! ### codecs -/
/-- how values of a Lean type stand for Python's -/
structure Cod (K : Frag) (α : Type) where
  rp : Hp → V → α → Prop
  u : α → U
  mono : ∀ {H H' : Hp} {v : V} {x : α}, Same H H' → rp H v x → rp H' v x
  ru : ∀ {H : Hp} {v : V} {x : α}, rp H v x → rpU K H (u x) v
/-- codecs of rows of values -/
structure TC (K : Frag) (α : Type) where
  n : Nat
  rp : Hp → List V → α → Prop
  u : α → List U
  mono : ∀ {H H' : Hp} {vs : List V} {x : α}, Same H H' → rp H vs x → rp H' vs x
  ru : ∀ {H : Hp} {vs : List V} {x : α}, rp H vs x → rpUs K H (u x) vs
  len : ∀ {H : Hp} {vs : List V} {x : α}, rp H vs x → vs.length = n
section
variable {K : Frag}
def cInt : Cod K Int := ⟨fun _ v x => v = .int x, .int, fun _ h => h, fun h => h⟩
def cBool : Cod K Bool := ⟨fun _ v x => v = .bl x, .bl, fun _ h => h, fun h => h⟩
def cStr : Cod K Str := ⟨fun _ v x => v = .str x, .str, fun _ h => h, fun h => h⟩
def cNon : Cod K Unit := ⟨fun _ v _ => v = .non, fun _ => .non, fun _ h => h, fun h => h⟩
def cU : Cod K U := ⟨fun H v x => rpU K H x v, id, fun e h => h.mono e, fun h => h⟩
def tc0 : TC K Unit := ⟨0, fun _ vs _ => vs = [], fun _ => [], fun _ h => h, fun h => h, fun h => by rw [h]; rfl⟩
def tc1 {α : Type} (c : Cod K α) : TC K α := ⟨1, fun H vs x => ∃ v, vs = [v] ∧ c.rp H v x, fun x => [c.u x], fun e ⟨v, h, q⟩ => ⟨v, h, c.mono e q⟩, fun ⟨v, h, q⟩ => ⟨v, [], h, c.ru q, rfl⟩, fun ⟨v, h, _⟩ => by rw [h]; rfl⟩
def tcC {α β : Type} (c : Cod K α) (t : TC K β) : TC K (α × β) :=
  ⟨t.n + 1, fun H vs x => ∃ v r, vs = v :: r ∧ c.rp H v x.1 ∧ t.rp H r x.2, fun x => c.u x.1 :: t.u x.2, fun e ⟨v, r, h, q, q2⟩ => ⟨v, r, h, c.mono e q, t.mono e q2⟩,
    fun ⟨v, r, h, q, q2⟩ => ⟨v, r, h, c.ru q, t.ru q2⟩, fun ⟨v, r, h, _, q2⟩ => by rw [h, List.length_cons, t.len q2]⟩
/-- a tuple of fixed length -/
def cTup {α : Type} (t : TC K α) : Cod K α :=
  ⟨fun H v x => ∃ a vs, v = .ref a ∧ SqT K H a vs ∧ t.rp H vs x, fun x => .tup (t.u x), fun e ⟨a, vs, h, q, q2⟩ => ⟨a, vs, h, Same.tup e q, t.mono e q2⟩, fun ⟨a, vs, h, q, q2⟩ => ⟨a, vs, h, q, t.ru q2⟩⟩
/-- rows of one codec -/
inductive Row {α : Type} (c : Cod K α) (H : Hp) : List V → List α → Prop
  | nil : Row c H [] []
  | cons {v : V} {x : α} {vs : List V} {xs : List α} : c.rp H v x → Row c H vs xs → Row c H (v :: vs) (x :: xs)
theorem Row.mono {α : Type} {c : Cod K α} {H H' : Hp} (e : Same H H') : ∀ {vs : List V} {xs : List α}, Row c H vs xs → Row c H' vs xs
  | _, _, .nil => .nil
  | _, _, .cons h t => .cons (c.mono e h) (Row.mono e t)
theorem Row.ru {α : Type} {c : Cod K α} {H : Hp} : ∀ {vs : List V} {xs : List α}, Row c H vs xs → rpUs K H (xs.map c.u) vs
  | _, _, .nil => rfl
  | _, _, .cons h t => ⟨_, _, rfl, c.ru h, Row.ru t⟩
theorem Row.length {α : Type} {c : Cod K α} {H : Hp} : ∀ {vs : List V} {xs : List α}, Row c H vs xs → vs.length = xs.length
  | _, _, .nil => rfl
  | _, _, .cons _ t => by simp [Row.length t]
theorem Row.get {α : Type} {c : Cod K α} {H : Hp} : ∀ {vs : List V} {xs : List α} {i : Nat} {x : α}, Row c H vs xs → xs[i]? = some x → ∃ v, vs[i]? = some v ∧ c.rp H v x
  | _, _, _, _, .nil, e => by simp at e
  | _, _, 0, _, .cons h _, e => by simp at e; subst e; exact ⟨_, rfl, h⟩
  | _, _, i + 1, _, .cons _ t, e => by
    obtain ⟨v, h1, h2⟩ := Row.get (i := i) t (by simpa using e)
    exact ⟨v, by simpa using h1, h2⟩
theorem Row.get' {α : Type} {c : Cod K α} {H : Hp} : ∀ {vs : List V} {xs : List α} {i : Nat} {v : V}, Row c H vs xs → vs[i]? = some v → ∃ x, xs[i]? = some x ∧ c.rp H v x
  | _, _, _, _, .nil, e => by simp at e
  | _, _, 0, _, .cons h _, e => by simp at e; subst e; exact ⟨_, rfl, h⟩
  | _, _, i + 1, _, .cons _ t, e => by
    obtain ⟨x, h1, h2⟩ := Row.get' (i := i) t (by simpa using e)
    exact ⟨x, by simpa using h1, h2⟩
theorem Row.append {α : Type} {c : Cod K α} {H : Hp} : ∀ {vs ws : List V} {xs ys : List α}, Row c H vs xs → Row c H ws ys → Row c H (vs ++ ws) (xs ++ ys)
  | _, _, _, _, .nil, q => q
  | _, _, _, _, .cons h t, q => .cons h (Row.append t q)
theorem Row.take {α : Type} {c : Cod K α} {H : Hp} : ∀ {vs : List V} {xs : List α} (n : Nat), Row c H vs xs → Row c H (vs.take n) (xs.take n)
  | _, _, 0, _ => .nil
  | _, _, _ + 1, .nil => .nil
  | _, _, n + 1, .cons h t => .cons h (Row.take n t)
theorem Row.drop {α : Type} {c : Cod K α} {H : Hp} : ∀ {vs : List V} {xs : List α} (n : Nat), Row c H vs xs → Row c H (vs.drop n) (xs.drop n)
  | _, _, 0, h => h
  | _, _, _ + 1, .nil => .nil
  | _, _, n + 1, .cons _ t => Row.drop n t
theorem Row.set {α : Type} {c : Cod K α} {H : Hp} {v : V} {x : α} (h : c.rp H v x) : ∀ {vs : List V} {xs : List α} (n : Nat), Row c H vs xs → Row c H (vs.set n v) (xs.set n x)
  | _, _, _, .nil => .nil
  | _, _, 0, .cons _ t => .cons h t
  | _, _, n + 1, .cons q t => .cons q (Row.set h n t)
theorem Row.erase {α : Type} {c : Cod K α} {H : Hp} : ∀ {vs : List V} {xs : List α} (n : Nat), Row c H vs xs → Row c H (vs.eraseIdx n) (xs.eraseIdx n)
  | _, _, _, .nil => .nil
  | _, _, 0, .cons _ t => t
  | _, _, n + 1, .cons q t => .cons q (Row.erase n t)
/-- a tuple, a list (that stands still) of any length -/
def cSeq {α : Type} (c : Cod K α) : Cod K (List α) :=
  ⟨fun H v x => ∃ a vs, v = .ref a ∧ SqT K H a vs ∧ Row c H vs x, fun x => .tup (x.map c.u), fun e ⟨a, vs, h, q, q2⟩ => ⟨a, vs, h, Same.tup e q, q2.mono e⟩, fun ⟨a, vs, h, q, q2⟩ => ⟨a, vs, h, q, q2.ru⟩⟩
def cLst {α : Type} (c : Cod K α) : Cod K (List α) :=
  ⟨fun H v x => ∃ a vs, v = .ref a ∧ H a = some (.lst vs) ∧ Row c H vs x, fun x => .lst (x.map c.u), fun e ⟨a, vs, h, q, q2⟩ => ⟨a, vs, h, e _ _ q, q2.mono e⟩, fun ⟨a, vs, h, q, q2⟩ => ⟨a, vs, h, q, q2.ru⟩⟩
/-- None, or such a value (that is never None) -/
def cOpt {α : Type} (c : Cod K α) : Cod K (Option α) :=
  ⟨fun H v x => match x with | none => v = .non | some y => v ≠ .non ∧ c.rp H v y, fun x => match x with | none => .non | some y => c.u y,
    fun {H H' v x} e h => match x, h with | none, h => h | some _, ⟨h, q⟩ => ⟨h, c.mono e q⟩, fun {H v x} h => match x, h with | none, h => h | some _, ⟨_, q⟩ => c.ru q⟩

/-- the i-th place of a row -/
structure Nth {α β : Type} (t : TC K α) (i : Nat) (c : Cod K β) (p : α → β) : Prop where
  get : ∀ {H : Hp} {vs : List V} {x : α}, t.rp H vs x → ∃ v, vs[i]? = some v ∧ c.rp H v (p x)
theorem nthL {α : Type} {c : Cod K α} : Nth (tc1 c) 0 c (fun x => x) := ⟨fun ⟨v, h, q⟩ => ⟨v, by rw [h]; rfl, q⟩⟩
theorem nthZ {α β : Type} {c : Cod K α} {t : TC K β} : Nth (tcC c t) 0 c (fun x => x.1) := ⟨fun ⟨v, r, h, q, _⟩ => ⟨v, by rw [h]; rfl, q⟩⟩
theorem nthS {α β γ : Type} {c : Cod K α} {t : TC K β} {i : Nat} {d : Cod K γ} {p : β → γ} (h : Nth t i d p) : Nth (tcC c t) (i + 1) d (fun x => p x.2) := ⟨fun ⟨v, r, e, _, q⟩ => by
  obtain ⟨w, h1, h2⟩ := h.get q
  exact ⟨w, by rw [e]; simpa using h1, h2⟩⟩
end

/-! ### cells: what a local name owns -/
structure Cel (K : Frag) (α : Type) where
  ct : Hp → HO → α → Prop
  mono : ∀ {H H' : Hp} {o : HO} {x : α}, Same H H' → ct H o x → ct H' o x
  nt : ∀ {H : Hp} {o : HO} {x : α}, ct H o x → Mut (some o)
def lstC {K : Frag} {α : Type} (c : Cod K α) : Cel K (List α) := ⟨fun H o x => ∃ vs, o = .lst vs ∧ Row c H vs x, fun e ⟨vs, h, q⟩ => ⟨vs, h, q.mono e⟩, fun ⟨_, h, _⟩ => by rw [h]; trivial⟩

inductive Ent (K : Frag) : Type 1 where
  | no
  | im {α : Type} (c : Cod K α) (x : α)
  | ow {α : Type} (c : Cel K α) (x : α)
  /-- the name of what is lent; what is lent (at a place of its own behind the names) -/
  | lp
  | ln {α : Type} (c : Cel K α) (x : α)
abbrev En (K : Frag) := List (Ent K)
def Ent.isOw {K : Frag} : Ent K → Bool
  | .ow _ _ => true
  | _ => false
/-- the heap at the entry and its part that stands still; what is lent to be changed -/
structure Ct where
  W : Hp
  H : Hp
  B : Addr → Prop
  a : Option Addr
def Ent.at {K : Frag} (C : Ct) (e : Ent K) (s : Option V) (W H : Hp) : Prop := match e with
  | .no => True
  | .im c x => ∃ v, s = some v ∧ c.rp W v x
  | .ow c x => ∃ a o, s = some (.ref a) ∧ W a = none ∧ (C.H a = none ∨ C.B a) ∧ H a = some o ∧ c.ct W o x
  | .lp => ∃ a, C.a = some a ∧ s = some (.ref a)
  | .ln c x => ∃ a o, C.a = some a ∧ W a = none ∧ H a = some o ∧ c.ct W o x
def own {K : Frag} (Γ : En K) (i : Nat) : Prop := ∃ e, Γ[i]? = some e ∧ e.isOw = true

def drops0 {K : Frag} : List Nat → En K → En K
  | [], Γ => Γ
  | i :: is, Γ => drops0 is (Γ.set i .no)
structure Sat {K : Frag} (C : Ct) (Γ : En K) (σ : L2.St) (W H : Hp) : Prop where
  sl : ∀ (i : Nat) (e : Ent K), Γ[i]? = some e → e.at C (σ[i]?.getD none) W H
  ap : ∀ (i j : Nat) (a : Addr), i ≠ j → own Γ i → own Γ j → σ[i]? = some (some (.ref a)) → σ[j]? ≠ some (some (.ref a))
  sub : Same W H
  old : Same C.W W
  la : ∀ i a, C.a = some a → own Γ i → σ[i]? ≠ some (some (.ref a))
  fr : ∀ a o, C.H a = some o → ¬ C.B a → C.a ≠ some a → H a = some o
  li : ∀ a, C.H a ≠ none → H a ≠ none
  nw : ∀ a, C.H a ≠ none → C.W a = none → W a = none
  lb : ∀ a, C.B a ∨ C.a = some a → H a ≠ none
/-- both heaps grow, nothing changes -/
structure Grow (W H W' H' : Hp) : Prop where
  w : Same W W'
  h : Same H H'
  sub : Same W' H'
  nw : ∀ a, H a ≠ none → W a = none → W' a = none
section
variable {K : Frag} {C : Ct} {Γ : En K} {σ : L2.St} {W H W' H' : Hp}
theorem Same.nn {a : Addr} (e : Same H H') (h : H a ≠ none) : H' a ≠ none := fun z => by
  cases q : H a with
  | none => exact h q
  | some o => have := e a o q; rw [z] at this; cases this
theorem Grow.refl (h : Same W H) : Grow W H W H := ⟨Same.refl _, Same.refl _, h, fun _ _ h => h⟩
theorem Grow.trans {W2 H2 : Hp} (a : Grow W H W' H') (b : Grow W' H' W2 H2) : Grow W H W2 H2 :=
  ⟨a.w.trans b.w, a.h.trans b.h, b.sub, fun x h1 h2 => b.nw x (Same.nn a.h h1) (a.nw x h1 h2)⟩
/-- a new object that stands still -/
theorem Grow.new {p : Addr} {o : HO} (s : Same W H) (hp : H p = none) : Grow W H (upd W p o) (upd H p o) := by
  have wp : W p = none := s.free hp
  refine ⟨fun b u e => ?_, fun b u e => ?_, fun b u e => ?_, fun b h1 h2 => ?_⟩
  · rw [upd_ne (ne_of_none e wp)]; exact e
  · rw [upd_ne (ne_of_none e hp)]; exact e
  · by_cases hb : b = p
    · subst hb; rw [upd_same] at e ⊢; exact e
    · rw [upd_ne hb] at e ⊢; exact s b u e
  · have hb : b ≠ p := fun z => by subst z; exact h1 hp
    rw [upd_ne hb]; exact h2
theorem Ent.grow {e : Ent K} {s : Option V} (g : Grow W H W' H') (h : e.at C s W H) : e.at C s W' H' := by
  cases e with
  | no => trivial
  | im c x => obtain ⟨v, h1, h2⟩ := h; exact ⟨v, h1, c.mono g.w h2⟩
  | ow c x =>
    obtain ⟨a, o, h1, h2, h3, h4, h5⟩ := h
    exact ⟨a, o, h1, g.nw a (by rw [h4]; simp) h2, h3, g.h _ _ h4, c.mono g.w h5⟩
  | lp => exact h
  | ln c x =>
    obtain ⟨a, o, h1, h2, h4, h5⟩ := h
    exact ⟨a, o, h1, g.nw a (by rw [h4]; simp) h2, g.h _ _ h4, c.mono g.w h5⟩
theorem Sat.grow (s : Sat C Γ σ W H) (g : Grow W H W' H') : Sat C Γ σ W' H' where
  sl := fun i e h => Ent.grow g (s.sl i e h)
  ap := s.ap
  sub := g.sub
  old := s.old.trans g.w
  la := s.la
  fr := fun a o h hb ha => g.h _ _ (s.fr a o h hb ha)
  li := fun a h => Same.nn g.h (s.li a h)
  nw := fun a h1 h2 => g.nw a (s.li a h1) (s.nw a h1 h2)
  lb := fun a h => Same.nn g.h (s.lb a h)
theorem own_ne {i j : Nat} {e : Ent K} (h : own (Γ.set i e) j) (hj : j ≠ i) : own Γ j := by
  obtain ⟨u, h1, h2⟩ := h
  rw [List.getElem?_set_ne (Ne.symm hj)] at h1
  exact ⟨u, h1, h2⟩
theorem own_no {i : Nat} {e : Ent K} (he : e.isOw = false) : ¬ own (Γ.set i e) i := fun ⟨u, h1, h2⟩ => by
  by_cases hi : i < Γ.length
  · rw [List.getElem?_set_self hi] at h1
    have := Option.some.inj h1
    rw [← this, he] at h2; cases h2
  · rw [List.getElem?_eq_none (by rw [List.length_set]; omega)] at h1; cases h1
/-- a name is given a value (that stands still) -/
theorem Sat.put {i : Nat} {α : Type} {c : Cod K α} {x : α} {v : V} (s : Sat C Γ σ W H) (hi : i < σ.length) (h : c.rp W v x) : Sat C (Γ.set i (.im c x)) (σ.set i (some v)) W H where
  sl := fun j e q => by
    by_cases hj : j = i
    · subst hj
      by_cases hl : j < Γ.length
      · rw [List.getElem?_set_self hl] at q
        have := Option.some.inj q; subst this
        rw [List.getElem?_set_self hi]
        exact ⟨v, rfl, h⟩
      · rw [List.getElem?_eq_none (by rw [List.length_set]; omega)] at q; cases q
    · rw [List.getElem?_set_ne (Ne.symm hj)] at q ⊢
      exact s.sl j e q
  ap := fun j k a hjk hj hk e1 => by
    have nj : j ≠ i := fun z => by subst z; exact own_no rfl hj
    have nk : k ≠ i := fun z => by subst z; exact own_no rfl hk
    rw [List.getElem?_set_ne (Ne.symm nj)] at e1
    rw [List.getElem?_set_ne (Ne.symm nk)]
    exact s.ap j k a hjk (own_ne hj nj) (own_ne hk nk) e1
  sub := s.sub
  old := s.old
  la := fun j a ha hj => by
    have nj : j ≠ i := fun z => by subst z; exact own_no rfl hj
    rw [List.getElem?_set_ne (Ne.symm nj)]
    exact s.la j a ha (own_ne hj nj)
  fr := s.fr
  li := s.li
  nw := s.nw
  lb := s.lb
/-- what is known of a name is forgotten -/
theorem Sat.drop (i : Nat) (s : Sat C Γ σ W H) : Sat C (Γ.set i .no) σ W H where
  sl := fun j e q => by
    by_cases hj : j = i
    · subst hj
      by_cases hl : j < Γ.length
      · rw [List.getElem?_set_self hl] at q
        have := Option.some.inj q; subst this; trivial
      · rw [List.getElem?_eq_none (by rw [List.length_set]; omega)] at q; cases q
    · rw [List.getElem?_set_ne (Ne.symm hj)] at q
      exact s.sl j e q
  ap := fun j k a hjk hj hk e1 => by
    have nj : j ≠ i := fun z => by subst z; exact own_no rfl hj
    have nk : k ≠ i := fun z => by subst z; exact own_no rfl hk
    exact s.ap j k a hjk (own_ne hj nj) (own_ne hk nk) e1
  sub := s.sub
  old := s.old
  la := fun j a ha hj => by
    have nj : j ≠ i := fun z => by subst z; exact own_no rfl hj
    exact s.la j a ha (own_ne hj nj)
  fr := s.fr
  li := s.li
  nw := s.nw
  lb := s.lb
/-- an address that no name owns -/
def Apart (Γ : En K) (σ : L2.St) (p : Addr) : Prop := ∀ i, own Γ i → σ[i]? ≠ some (some (.ref p))
theorem Sat.apart {p : Addr} (s : Sat C Γ σ W H) (hp : H p = none) : Apart Γ σ p := fun i ⟨e, h1, h2⟩ z => by
  cases e with
  | no => cases h2
  | im c x => cases h2
  | ow c x =>
    obtain ⟨a, o, e1, _, _, e4, _⟩ := s.sl i _ h1
    rw [z] at e1
    have := Option.some.inj (show some (V.ref p) = some (V.ref a) from e1)
    injection this with this
    subst this
    rw [hp] at e4; cases e4
  | lp => cases h2
  | ln c x => cases h2
/-- a name is given a new object of its own -/
theorem Sat.take {i : Nat} {α : Type} {c : Cel K α} {x : α} {p : Addr} {o : HO} (s : Sat C Γ σ W H) (hi : i < σ.length) (hw : W p = none) (hb : C.H p = none ∨ C.B p) (hp : H p = some o) (h : c.ct W o x) (ha : Apart Γ σ p) (hla : C.a ≠ some p) :
    Sat C (Γ.set i (.ow c x)) (σ.set i (some (.ref p))) W H where
  sl := fun j e q => by
    by_cases hj : j = i
    · subst hj
      by_cases hl : j < Γ.length
      · rw [List.getElem?_set_self hl] at q
        have := Option.some.inj q; subst this
        rw [List.getElem?_set_self hi]
        exact ⟨p, o, rfl, hw, hb, hp, h⟩
      · rw [List.getElem?_eq_none (by rw [List.length_set]; omega)] at q; cases q
    · rw [List.getElem?_set_ne (Ne.symm hj)] at q ⊢
      exact s.sl j e q
  ap := fun j k a hjk hj hk e1 => by
    by_cases nj : j = i
    · subst nj
      rw [List.getElem?_set_self hi] at e1
      have := Option.some.inj (Option.some.inj e1)
      injection this with this
      subst this
      have nk : k ≠ j := Ne.symm hjk
      rw [List.getElem?_set_ne (Ne.symm nk)]
      exact ha k (own_ne hk nk)
    · by_cases nk : k = i
      · subst nk
        rw [List.getElem?_set_ne (Ne.symm nj)] at e1
        rw [List.getElem?_set_self hi]
        intro z
        have := Option.some.inj (Option.some.inj z)
        injection this with this
        subst this
        exact ha j (own_ne hj nj) e1
      · rw [List.getElem?_set_ne (Ne.symm nj)] at e1
        rw [List.getElem?_set_ne (Ne.symm nk)]
        exact s.ap j k a hjk (own_ne hj nj) (own_ne hk nk) e1
  sub := s.sub
  old := s.old
  la := fun j a ha hj => by
    by_cases nj : j = i
    · subst nj
      rw [List.getElem?_set_self hi]
      intro z
      have := Option.some.inj (Option.some.inj z)
      injection this with this
      subst this
      exact hla ha
    · rw [List.getElem?_set_ne (Ne.symm nj)]
      exact s.la j a ha (own_ne hj nj)
  fr := s.fr
  li := s.li
  nw := s.nw
  lb := s.lb
/-- what a name owns is changed (by whomever; the heap may have grown) -/
theorem Sat.turn {i : Nat} {α β : Type} {c : Cel K α} {c' : Cel K β} {x : α} {y : β} {p : Addr} {o' : HO} (s : Sat C Γ σ W H) (hi : Γ[i]? = some (.ow c x)) (e : σ[i]? = some (some (.ref p)))
    (w : Same W W') (sub : Same W' H') (nw : ∀ a, H a ≠ none → W a = none → W' a = none) (hh : ∀ b u, b ≠ p → H b = some u → H' b = some u) (hp : H' p = some o') (h : c'.ct W' o' y) : Sat C (Γ.set i (.ow c' y)) σ W' H' := by
  obtain ⟨a, o, e1, e2, e3, e4, e5⟩ := s.sl i _ hi
  rw [e] at e1
  have ea := Option.some.inj (show some (V.ref p) = some (V.ref a) from e1)
  injection ea with ea
  subst ea
  have oi : own Γ i := ⟨_, hi, rfl⟩
  have hl : i < Γ.length := (List.getElem?_eq_some_iff.mp hi).1
  have wp : W' p = none := nw p (by rw [e4]; simp) e2
  have own' : ∀ j, own (Γ.set i (.ow c' y)) j → own Γ j := fun j hj => by
    by_cases q : j = i
    · rw [q]; exact oi
    · exact own_ne hj q
  have pa : C.a ≠ some p := fun z => s.la i p z oi e
  refine ⟨fun j u q => ?_, fun j k a hjk hj hk => s.ap j k a hjk (own' j hj) (own' k hk), sub, s.old.trans w, fun j a ha hj => s.la j a ha (own' j hj), fun b u q hb ha => ?_, fun b q => ?_, fun b h1 h2 => nw b (s.li b h1) (s.nw b h1 h2), fun b q => ?_⟩
  · by_cases hj : j = i
    · subst hj
      rw [List.getElem?_set_self hl] at q
      have := Option.some.inj q; subst this
      rw [e]
      exact ⟨p, o', rfl, wp, e3, hp, h⟩
    · rw [List.getElem?_set_ne (Ne.symm hj)] at q
      have z := s.sl j u q
      cases u with
      | no => trivial
      | im d t => obtain ⟨v, h1, h2⟩ := z; exact ⟨v, h1, d.mono w h2⟩
      | ow d t =>
        obtain ⟨b, ob, f1, f2, f3, f4, f5⟩ := z
        have nb : b ≠ p := fun z => by
          subst z
          have oj : own Γ j := ⟨_, q, rfl⟩
          refine s.ap i j b (Ne.symm hj) oi oj e ?_
          cases q2 : σ[j]? with
          | none => rw [q2] at f1; cases f1
          | some w2 => rw [q2] at f1; rw [show w2 = some (V.ref b) from f1]
        exact ⟨b, ob, f1, nw b (by rw [f4]; simp) f2, f3, hh b ob nb f4, d.mono w f5⟩
      | lp => exact z
      | ln d t =>
        obtain ⟨b, ob, f1, f2, f4, f5⟩ := z
        have nb : b ≠ p := fun z => by subst z; exact pa f1
        exact ⟨b, ob, f1, nw b (by rw [f4]; simp) f2, hh b ob nb f4, d.mono w f5⟩
  · refine hh b u (fun z => ?_) (s.fr b u q hb ha)
    subst z
    rcases e3 with z | z
    · rw [z] at q; cases q
    · exact hb z
  · by_cases hb : b = p
    · subst hb; rw [hp]; simp
    · intro z
      cases q2 : H b with
      | none => exact s.li b q q2
      | some u => rw [hh b u hb q2] at z; cases z
  · by_cases hb : b = p
    · subst hb; rw [hp]; simp
    · intro z
      cases q2 : H b with
      | none => exact s.lb b q q2
      | some u => rw [hh b u hb q2] at z; cases z
/-- what a name owns is from now on a value that stands still -/
theorem Sat.freeze {i : Nat} {α : Type} {c : Cod K α} {xs : List α} (s : Sat C Γ σ W H) (hi : Γ[i]? = some (.ow (lstC c) xs)) (hb : ∀ a, C.B a → σ[i]? ≠ some (some (.ref a))) :
    ∃ W', Same W W' ∧ Sat C (Γ.set i (.im (cLst c) xs)) σ W' H := by
  obtain ⟨a, o, e1, e2, e3, e4, e5⟩ := s.sl i _ hi
  obtain ⟨vs, rfl, r⟩ := e5
  have oi : own Γ i := ⟨_, hi, rfl⟩
  have ei : σ[i]? = some (some (.ref a)) := by
    cases q2 : σ[i]? with
    | none => rw [q2] at e1; cases e1
    | some w2 => rw [q2] at e1; rw [show w2 = some (V.ref a) from e1]
  have w : Same W (upd W a (.lst vs)) := fun b u q => by rw [upd_ne (ne_of_none q e2)]; exact q
  have hl : i < Γ.length := (List.getElem?_eq_some_iff.mp hi).1
  have na : C.H a = none := e3.elim id fun z => absurd ei (hb a z)
  refine ⟨upd W a (.lst vs), w, fun j u q => ?_, fun j k b hjk hj hk => ?_, fun b u q => ?_, s.old.trans w, fun j b hb hj => s.la j b hb (own_ne hj fun z => by subst z; exact own_no rfl hj), s.fr, s.li, fun b h1 h2 => ?_, s.lb⟩
  · by_cases hj : j = i
    · subst hj
      rw [List.getElem?_set_self hl] at q
      have := Option.some.inj q; subst this
      rw [ei]
      exact ⟨.ref a, rfl, a, vs, rfl, upd_same, r.mono w⟩
    · rw [List.getElem?_set_ne (Ne.symm hj)] at q
      have z := s.sl j u q
      cases u with
      | no => trivial
      | im d t => obtain ⟨v, h1, h2⟩ := z; exact ⟨v, h1, d.mono w h2⟩
      | ow d t =>
        obtain ⟨b, ob, f1, f2, f3, f4, f5⟩ := z
        have nb : b ≠ a := fun z => by
          subst z
          have oj : own Γ j := ⟨_, q, rfl⟩
          refine s.ap i j b (Ne.symm hj) oi oj ei ?_
          cases q2 : σ[j]? with
          | none => rw [q2] at f1; cases f1
          | some w2 => rw [q2] at f1; rw [show w2 = some (V.ref b) from f1]
        exact ⟨b, ob, f1, by rw [upd_ne nb]; exact f2, f3, f4, d.mono w f5⟩
      | lp => exact z
      | ln d t =>
        obtain ⟨b, ob, f1, f2, f4, f5⟩ := z
        have nb : b ≠ a := fun z => by subst z; exact s.la i b f1 oi ei
        exact ⟨b, ob, f1, by rw [upd_ne nb]; exact f2, f4, d.mono w f5⟩
  · have nj : j ≠ i := fun z => by subst z; exact own_no rfl hj
    have nk : k ≠ i := fun z => by subst z; exact own_no rfl hk
    exact s.ap j k b hjk (own_ne hj nj) (own_ne hk nk)
  · by_cases q2 : b = a
    · subst q2; rw [upd_same] at q; cases q; exact e4
    · rw [upd_ne q2] at q; exact s.sub b u q
  · have nb : b ≠ a := fun z => by subst z; exact h1 na
    rw [upd_ne nb]; exact s.nw b h1 h2
/-- an object of nobody's changes -/
theorem Sat.side {p : Addr} {o : HO} (s : Sat C Γ σ W H) (cp : C.H p = none) (wp : W p = none) (ap : Apart Γ σ p) (ca : C.a ≠ some p) : Sat C Γ σ W (upd H p o) := by
  have nn : ∀ b, H b ≠ none → upd H p o b ≠ none := fun b h => by
    by_cases hb : b = p
    · subst hb; rw [upd_same]; simp
    · rw [upd_ne hb]; exact h
  refine ⟨fun i e h => ?_, s.ap, fun b u e => by rw [upd_ne (ne_of_none e wp)]; exact s.sub b u e, s.old, s.la, fun b u e hb ha => by rw [upd_ne (ne_of_none e cp)]; exact s.fr b u e hb ha, fun b h => nn b (s.li b h), s.nw, fun b h => nn b (s.lb b h)⟩
  have t := s.sl i e h
  cases e with
  | no => trivial
  | im c x => exact t
  | ow c x =>
    obtain ⟨a, u, e1, e2, e3, e4, e5⟩ := t
    have na : a ≠ p := fun z => by
      subst z
      refine ap i ⟨_, h, rfl⟩ ?_
      cases q : σ[i]? with
      | none => rw [q] at e1; cases e1
      | some w => rw [q] at e1; rw [show w = some (V.ref a) from e1]
    exact ⟨a, u, e1, e2, e3, by rw [upd_ne na]; exact e4, e5⟩
  | lp => exact t
  | ln c x =>
    obtain ⟨a, u, e1, e2, e4, e5⟩ := t
    have na : a ≠ p := fun z => by subst z; exact ca e1
    exact ⟨a, u, e1, e2, by rw [upd_ne na]; exact e4, e5⟩
def lnU (m : Nat) : Nat → En K → Bool
  | _, [] => true
  | i, .ln _ _ :: Γ => (i == m) && lnU m (i + 1) Γ
  | i, .no :: Γ => lnU m (i + 1) Γ
  | i, .im _ _ :: Γ => lnU m (i + 1) Γ
  | i, .ow _ _ :: Γ => lnU m (i + 1) Γ
  | i, .lp :: Γ => lnU m (i + 1) Γ
theorem lnU_at {m : Nat} {α : Type} {c : Cel K α} {x : α} : ∀ {Γ : En K} {i : Nat}, lnU m i Γ = true → ∀ j, Γ[j]? = some (.ln c x) → i + j = m
  | [], i, h, j, q => by simp at q
  | e :: Γ, i, h, 0, q => by
    simp at q; subst q
    have h : ((i == m) && lnU m (i + 1) Γ) = true := h
    rw [Bool.and_eq_true] at h
    exact eq_of_beq h.1
  | e :: Γ, i, h, j + 1, q => by
    have q : Γ[j]? = some (.ln c x) := by simpa using q
    have h' : lnU m (i + 1) Γ = true := by
      cases e with
      | ln d t =>
        have h : ((i == m) && lnU m (i + 1) Γ) = true := h
        rw [Bool.and_eq_true] at h
        exact h.2
      | _ => exact h
    have := lnU_at h' j q
    omega
/-- what is lent is changed -/
theorem Sat.turnL {m : Nat} {α β : Type} {c : Cel K α} {c' : Cel K β} {x : α} {y : β} {p : Addr} {o' : HO} (s : Sat C Γ σ W H) (hm : Γ[m]? = some (.ln c x)) (ca : C.a = some p)
    (w : Same W W') (sub : Same W' H') (nw : ∀ a, H a ≠ none → W a = none → W' a = none) (hh : ∀ b u, b ≠ p → H b = some u → H' b = some u) (hp : H' p = some o') (h : c'.ct W' o' y)
    (hu : lnU m 0 Γ = true) : Sat C (Γ.set m (.ln c' y)) σ W' H' := by
  obtain ⟨a, o, e1, e2, e4, e5⟩ := s.sl m _ hm
  rw [ca] at e1
  have ea := Option.some.inj e1
  subst ea
  have hl : m < Γ.length := (List.getElem?_eq_some_iff.mp hm).1
  have wp : W' p = none := nw p (by rw [e4]; simp) e2
  have own' : ∀ j, own (Γ.set m (.ln c' y)) j → own Γ j := fun j hj => own_ne hj fun z => by subst z; exact own_no rfl hj
  have nn : ∀ b, H b ≠ none → H' b ≠ none := fun b q => by
    by_cases hb : b = p
    · subst hb; rw [hp]; simp
    · intro z
      cases q2 : H b with
      | none => exact q q2
      | some u => rw [hh b u hb q2] at z; cases z
  refine ⟨fun j u q => ?_, fun j k a hjk hj hk => s.ap j k a hjk (own' j hj) (own' k hk), sub, s.old.trans w, fun j a ha hj => s.la j a ha (own' j hj), fun b u q hb ha => ?_, fun b q => nn b (s.li b q), fun b h1 h2 => nw b (s.li b h1) (s.nw b h1 h2), fun b q => nn b (s.lb b q)⟩
  · by_cases hj : j = m
    · subst hj
      rw [List.getElem?_set_self hl] at q
      have := Option.some.inj q; subst this
      exact ⟨p, o', ca, wp, hp, h⟩
    · rw [List.getElem?_set_ne (Ne.symm hj)] at q
      have z := s.sl j u q
      cases u with
      | no => trivial
      | im d t => obtain ⟨v, h1, h2⟩ := z; exact ⟨v, h1, d.mono w h2⟩
      | ow d t =>
        obtain ⟨b, ob, f1, f2, f3, f4, f5⟩ := z
        have nb : b ≠ p := fun z => by
          subst z
          refine s.la j b ca ⟨_, q, rfl⟩ ?_
          cases q2 : σ[j]? with
          | none => rw [q2] at f1; cases f1
          | some w2 => rw [q2] at f1; rw [show w2 = some (V.ref b) from f1]
        exact ⟨b, ob, f1, nw b (by rw [f4]; simp) f2, f3, hh b ob nb f4, d.mono w f5⟩
      | lp => exact z
      | ln d t => exact absurd (by have := lnU_at hu j q; omega) hj
  · have nb : b ≠ p := fun z => by subst z; exact ha ca
    exact hh b u nb (s.fr b u q hb ha)
/-- within a part: all that stands now stays, but what the names own -/
def inner (C : Ct) (Γ : En K) (σ : L2.St) (W H : Hp) : Ct := ⟨W, H, fun a => C.B a ∨ ∃ i, own Γ i ∧ σ[i]? = some (some (.ref a)), C.a⟩
theorem Sat.into (s : Sat C Γ σ W H) : Sat (inner C Γ σ W H) Γ σ W H := by
  refine ⟨fun i e h => ?_, s.ap, s.sub, Same.refl _, s.la, fun _ _ h _ _ => h, fun _ h => h, fun _ _ h => h, fun a h => ?_⟩
  · have t := s.sl i e h
    cases e with
    | no => trivial
    | im c x => exact t
    | ow c x =>
      obtain ⟨a, u, e1, e2, e3, e4, e5⟩ := t
      refine ⟨a, u, e1, e2, .inr (.inr ⟨i, ⟨_, h, rfl⟩, ?_⟩), e4, e5⟩
      cases q : σ[i]? with
      | none => rw [q] at e1; cases e1
      | some w => rw [q] at e1; rw [show w = some (V.ref a) from e1]
    | lp => exact t
    | ln c x => exact t
  · rcases h with (h | ⟨i, ⟨e, h1, h2⟩, h3⟩) | h
    · exact s.lb a (.inl h)
    · cases e with
      | no => cases h2
      | im c x => cases h2
      | ow c x =>
        obtain ⟨b, u, e1, e2, e3, e4, e5⟩ := s.sl i _ h1
        rw [h3] at e1
        have := Option.some.inj (show some (V.ref a) = some (V.ref b) from e1)
        injection this with this
        subst this
        rw [e4]; simp
      | lp => cases h2
      | ln c x => cases h2
    · exact s.lb a (.inr h)
theorem Sat.outof {Γ' : En K} {σ' : L2.St} (s : Sat C Γ σ W H) (t : Sat (inner C Γ σ W H) Γ' σ' W' H') : Sat C Γ' σ' W' H' := by
  have own1 : ∀ a, (∃ i, own Γ i ∧ σ[i]? = some (some (.ref a))) → C.H a = none ∨ C.B a := fun a ⟨i, ⟨e, h1, h2⟩, h3⟩ => by
    cases e with
    | no => cases h2
    | im c x => cases h2
    | ow c x =>
      obtain ⟨b, u, e1, e2, e3, e4, e5⟩ := s.sl i _ h1
      rw [h3] at e1
      have := Option.some.inj (show some (V.ref a) = some (V.ref b) from e1)
      injection this with this
      subst this
      exact e3
    | lp => cases h2
    | ln c x => cases h2
  refine ⟨fun i e h => ?_, t.ap, t.sub, s.old.trans t.old, t.la, fun a o h hb ha => ?_, fun a h => t.li a (s.li a h), fun a h1 h2 => t.nw a (s.li a h1) (s.nw a h1 h2), fun a h => t.lb a (h.imp .inl id)⟩
  · have q := t.sl i e h
    cases e with
    | no => trivial
    | im c x => exact q
    | ow c x =>
      obtain ⟨a, u, e1, e2, e3, e4, e5⟩ := q
      refine ⟨a, u, e1, e2, ?_, e4, e5⟩
      rcases e3 with e3 | e3 | e3
      · left
        cases q2 : C.H a with
        | none => rfl
        | some o => exact absurd e3 (s.li a (by rw [q2]; simp))
      · exact .inr e3
      · exact own1 a e3
    | lp => exact q
    | ln c x => exact q
  · refine t.fr a o (s.fr a o h hb ha) (fun z => ?_) ha
    rcases z with z | z
    · exact hb z
    · rcases own1 a z with z | z
      · rw [z] at h; cases h
      · exact hb z
/-- names set aside -/
theorem drops_get : ∀ (vs : List Nat) (Γ : En K) (i : Nat) (e : Ent K), (drops0 vs Γ)[i]? = some e → e = .no ∨ (i ∉ vs ∧ Γ[i]? = some e)
  | [], Γ, i, e, h => .inr ⟨by simp, h⟩
  | v :: vs, Γ, i, e, h => by
    rcases drops_get vs _ i e h with q | ⟨q1, q2⟩
    · exact .inl q
    · by_cases hi : i = v
      · subst hi
        by_cases hl : i < Γ.length
        · rw [List.getElem?_set_self hl] at q2
          exact .inl (Option.some.inj q2).symm
        · rw [List.getElem?_eq_none (by rw [List.length_set]; omega)] at q2; cases q2
      · rw [List.getElem?_set_ne (Ne.symm hi)] at q2
        exact .inr ⟨by simp only [List.mem_cons, not_or]; exact ⟨hi, q1⟩, q2⟩
theorem own_drops {vs : List Nat} {i : Nat} (h : own (drops0 vs Γ) i) : i ∉ vs ∧ own Γ i := by
  obtain ⟨e, h1, h2⟩ := h
  rcases drops_get vs Γ i e h1 with q | ⟨q1, q2⟩
  · rw [q] at h2; cases h2
  · exact ⟨q1, e, q2, h2⟩
theorem wipe_get {σ : L2.St} {i : Nat} : ∀ {vs : List Nat}, i ∉ vs → (wipe σ vs)[i]? = σ[i]?
  | [], _ => rfl
  | v :: vs, h => by
    simp only [List.mem_cons, not_or] at h
    show ((wipe σ vs).set v none)[i]? = _
    rw [List.getElem?_set_ne (Ne.symm h.1)]
    exact wipe_get h.2
theorem Sat.wipe (vs : List Nat) (s : Sat C Γ σ W H) : Sat C (drops0 vs Γ) (L2.wipe σ vs) W H where
  sl := fun i e h => by
    rcases drops_get vs Γ i e h with q | ⟨q1, q2⟩
    · subst q; trivial
    · rw [wipe_get q1]; exact s.sl i e q2
  ap := fun i j a hij hi hj => by
    obtain ⟨i1, i2⟩ := own_drops hi
    obtain ⟨j1, j2⟩ := own_drops hj
    rw [wipe_get i1, wipe_get j1]
    exact s.ap i j a hij i2 j2
  sub := s.sub
  old := s.old
  la := fun i a ha hi => by
    obtain ⟨i1, i2⟩ := own_drops hi
    rw [wipe_get i1]
    exact s.la i a ha i2
  fr := s.fr
  li := s.li
  nw := s.nw
  lb := s.lb
/-- back: σ and its wiped like know the same of the other names -/
theorem Sat.unwipe {vs : List Nat} (s : Sat C (drops0 vs Γ) (L2.wipe σ vs) W H) : Sat C (drops0 vs Γ) σ W H where
  sl := fun i e h => by
    have t := s.sl i e h
    rcases drops_get vs Γ i e h with q | ⟨q1, q2⟩
    · subst q; trivial
    · rw [wipe_get q1] at t; exact t
  ap := fun i j a hij hi hj => by
    have t := s.ap i j a hij hi hj
    rw [wipe_get (own_drops hi).1, wipe_get (own_drops hj).1] at t
    exact t
  sub := s.sub
  old := s.old
  la := fun i a ha hi => by
    have t := s.la i a ha hi
    rw [wipe_get (own_drops hi).1] at t
    exact t
  fr := s.fr
  li := s.li
  nw := s.nw
  lb := s.lb
end
end Ty

set_option maxHeartbeats 4000000
namespace Ty
open PySem PySem.Spec PyProof.Rows L2

/-! ### what must hold so that a piece runs to a wish -/
section
variable (X : Cx)
def wpe (e : Expr) : TE := fun σ H Q => ∀ pins s, Inv X pins σ H s → wpAny (model X.prog X.w) X.A (eval e X.env) (EP X pins σ Q) X.xe s
def wpt (e : Expr) : TT := fun σ H Q => ∀ pins s, Inv X pins σ H s → wpAny (model X.prog X.w) X.A (isTrue e X.env (eval e X.env)) (TP X pins σ Q) X.xe s
def wpw (e : Expr) : TT := fun σ H Q => ∀ wh pins s, Inv X pins σ H s → wpAny (model X.prog X.w) X.A (isTrue e X.env wh) (TP X pins σ Q) X.xe s
def wpa (es : List Expr) : TA := fun σ H Q => ∀ pos pins s, Inv X pins σ H s → wpAny (model X.prog X.w) X.A (spliced (backTo pos (starEach es X.env))) (AP X pins σ Q) X.xe s
def wpS (st : Stmt) : TS := fun D σ H => ∀ pins s, Inv X pins σ H s → wpAny (model X.prog X.w) X.A (exec st X.env) (SP X pins D) X.xe s
def wpB (st : List Stmt) : TS := fun D σ H => ∀ pins s, Inv X pins σ H s → wpAny (model X.prog X.w) X.A (execs st X.env) (SP X pins D) X.xe s
def wpg (tg : Expr) : TG := fun v σ H Q => ∀ pins s u, Inv X pins σ H s → RelV v u → wpAny (model X.prog X.w) X.A (assign tg X.env u) (fun _ s' => ∃ σ' H', Inv X pins σ' H' s' ∧ Q σ' H') X.xe s
def wpi (tg iter : Expr) : TI := fun σ H R => ∀ pins s, Inv X pins σ H s → wpAny (model X.prog X.w) X.A (eval iter X.env) (fun v s1 => wpAny (model X.prog X.w) X.A (pyIter v) (PIE X pins σ tg R) X.xe s1) X.xe s
end
section
variable {X : Cx} {e tg : Expr} {es : List Expr} {st : Stmt} {sts : List Stmt} {σ : L2.St} {H : Hp}
theorem pe_w : PE X e (wpe X e) := ⟨fun pins s _ _ _ I h => h pins s I⟩
theorem pt_w : PT X e (wpt X e) := ⟨fun pins s _ _ _ I h => h pins s I⟩
theorem pw_w : PW X e (wpw X e) := ⟨fun wh pins s _ _ _ I h => h wh pins s I⟩
theorem pa_w : PA X es (wpa X es) := ⟨fun pos pins s _ _ _ I h => h pos pins s I⟩
theorem ps_w : PS X st (wpS X st) := ⟨fun pins s _ _ _ I h => h pins s I⟩
theorem pss_w : PSs X sts (wpB X sts) := ⟨fun pins s _ _ _ I h => h pins s I⟩
theorem pg_w : PG X tg (wpg X tg) := ⟨fun pins s _ _ _ u _ I r h => h pins s u I r⟩
theorem pi_w : PI X tg e (wpi X tg e) := ⟨fun pins s _ _ _ I h => h pins s I⟩
theorem w_pe {t : TE} {Q : VK} (h : PE X e t) (q : t σ H Q) : wpe X e σ H Q := fun pins s I => h.run pins s σ H Q I q
theorem w_pt {t : TT} {Q : Bool → Hp → Prop} (h : PT X e t) (q : t σ H Q) : wpt X e σ H Q := fun pins s I => h.run pins s σ H Q I q
theorem w_pw {t : TT} {Q : Bool → Hp → Prop} (h : PW X e t) (q : t σ H Q) : wpw X e σ H Q := fun wh pins s I => h.run wh pins s σ H Q I q
theorem w_pa {t : TA} {Q : List V → Hp → Prop} (h : PA X es t) (q : t σ H Q) : wpa X es σ H Q := fun pos pins s I => h.run pos pins s σ H Q I q
theorem w_ps {t : TS} {D : Ends} (h : PS X st t) (q : t D σ H) : wpS X st D σ H := fun pins s I => h.run pins s σ H D I q
theorem w_pss {t : TS} {D : Ends} (h : PSs X sts t) (q : t D σ H) : wpB X sts D σ H := fun pins s I => h.run pins s σ H D I q
theorem w_pg {t : TG} {v : V} {Q : L2.St → Hp → Prop} (h : PG X tg t) (q : t v σ H Q) : wpg X tg v σ H Q := fun pins s u I r => h.run pins s σ H v u Q I r q
theorem w_pi {t : TI} {R : It → Hp → Prop} (h : PI X tg e t) (q : t σ H R) : wpi X tg e σ H R := fun pins s I => h.run pins s σ H R I q
end

/-! ### the judgements -/
section
variable (X : Cx) (C : Ct) {ρ α : Type}
/-- from Γ with the rest r to go, e gives an x and goes on to what J says -/
structure EX (Γ : En X.K) (e : Expr) (c : Cod X.K α) (r : Option ρ) (J : α → En X.K → Option ρ → Prop) : Prop where
  run : ∀ (z : ρ) σ W H (Q : VK), Sat C Γ σ W H → r = some z →
    (∀ x Γ' r' W' H' v, J x Γ' r' → r' = some z → Sat C Γ' σ W' H' → Same W W' → c.rp W' v x → Q v H') → wpe X e σ H Q
/-- a new object, not yet owned -/
structure EF (Γ : En X.K) (e : Expr) (c : Cel X.K α) (r : Option ρ) (J : α → En X.K → Option ρ → Prop) : Prop where
  run : ∀ (z : ρ) σ W H (Q : VK), Sat C Γ σ W H → r = some z →
    (∀ x Γ' r' W' H' p o, J x Γ' r' → r' = some z → Sat C Γ' σ W' H' → Same W W' → W' p = none → C.H p = none → H' p = some o → c.ct W' o x → Apart Γ' σ p → C.a ≠ some p → Q (.ref p) H') → wpe X e σ H Q
structure ET (Γ : En X.K) (e : Expr) (r : Option ρ) (J : Bool → En X.K → Option ρ → Prop) : Prop where
  run : ∀ (z : ρ) σ W H (Q : Bool → Hp → Prop), Sat C Γ σ W H → r = some z →
    (∀ x Γ' r' W' H', J x Γ' r' → r' = some z → Sat C Γ' σ W' H' → Same W W' → Q x H') → wpt X e σ H Q
structure EW (Γ : En X.K) (e : Expr) (r : Option ρ) (J : Bool → En X.K → Option ρ → Prop) : Prop where
  run : ∀ (z : ρ) σ W H (Q : Bool → Hp → Prop), Sat C Γ σ W H → r = some z →
    (∀ x Γ' r' W' H', J x Γ' r' → r' = some z → Sat C Γ' σ W' H' → Same W W' → Q x H') → wpw X e σ H Q
structure EA (Γ : En X.K) (es : List Expr) (t : TC X.K α) (r : Option ρ) (J : α → En X.K → Option ρ → Prop) : Prop where
  run : ∀ (z : ρ) σ W H (Q : List V → Hp → Prop), Sat C Γ σ W H → r = some z →
    (∀ x Γ' r' W' H' vs, J x Γ' r' → r' = some z → Sat C Γ' σ W' H' → Same W W' → t.rp W' vs x → Q vs H') → wpa X es σ H Q
structure EL (Γ : En X.K) (es : List Expr) (c : Cod X.K α) (r : Option ρ) (J : List α → En X.K → Option ρ → Prop) : Prop where
  run : ∀ (z : ρ) σ W H (Q : List V → Hp → Prop), Sat C Γ σ W H → r = some z →
    (∀ x Γ' r' W' H' vs, J x Γ' r' → r' = some z → Sat C Γ' σ W' H' → Same W W' → Row c W' vs x → x.length = es.length → Q vs H') → wpa X es σ H Q
end
instance {X : Cx} {C : Ct} {ρ : Type} {Γ : En X.K} {r : Option ρ} {α : Type} {c : Cod X.K α} {e : Expr} {J : α → En X.K → Option ρ → Prop} : CoeFun (EX X C Γ e c r J) (fun _ => ∀ (z : ρ) σ W H (Q : VK), Sat C Γ σ W H → r = some z →
    (∀ x Γ' r' W' H' v, J x Γ' r' → r' = some z → Sat C Γ' σ W' H' → Same W W' → c.rp W' v x → Q v H') → wpe X e σ H Q) := ⟨EX.run⟩
instance {X : Cx} {C : Ct} {ρ : Type} {Γ : En X.K} {r : Option ρ} {α : Type} {c : Cel X.K α} {e : Expr} {J : α → En X.K → Option ρ → Prop} : CoeFun (EF X C Γ e c r J) (fun _ => ∀ (z : ρ) σ W H (Q : VK), Sat C Γ σ W H → r = some z →
    (∀ x Γ' r' W' H' p o, J x Γ' r' → r' = some z → Sat C Γ' σ W' H' → Same W W' → W' p = none → C.H p = none → H' p = some o → c.ct W' o x → Apart Γ' σ p → C.a ≠ some p → Q (.ref p) H') → wpe X e σ H Q) := ⟨EF.run⟩
instance {X : Cx} {C : Ct} {ρ : Type} {Γ : En X.K} {r : Option ρ} {e : Expr} {J : Bool → En X.K → Option ρ → Prop} : CoeFun (ET X C Γ e r J) (fun _ => ∀ (z : ρ) σ W H (Q : Bool → Hp → Prop), Sat C Γ σ W H → r = some z →
    (∀ x Γ' r' W' H', J x Γ' r' → r' = some z → Sat C Γ' σ W' H' → Same W W' → Q x H') → wpt X e σ H Q) := ⟨ET.run⟩
instance {X : Cx} {C : Ct} {ρ : Type} {Γ : En X.K} {r : Option ρ} {e : Expr} {J : Bool → En X.K → Option ρ → Prop} : CoeFun (EW X C Γ e r J) (fun _ => ∀ (z : ρ) σ W H (Q : Bool → Hp → Prop), Sat C Γ σ W H → r = some z →
    (∀ x Γ' r' W' H', J x Γ' r' → r' = some z → Sat C Γ' σ W' H' → Same W W' → Q x H') → wpw X e σ H Q) := ⟨EW.run⟩
instance {X : Cx} {C : Ct} {ρ : Type} {Γ : En X.K} {r : Option ρ} {α : Type} {t : TC X.K α} {es : List Expr} {J : α → En X.K → Option ρ → Prop} : CoeFun (EA X C Γ es t r J) (fun _ => ∀ (z : ρ) σ W H (Q : List V → Hp → Prop), Sat C Γ σ W H → r = some z →
    (∀ x Γ' r' W' H' vs, J x Γ' r' → r' = some z → Sat C Γ' σ W' H' → Same W W' → t.rp W' vs x → Q vs H') → wpa X es σ H Q) := ⟨EA.run⟩
instance {X : Cx} {C : Ct} {ρ : Type} {Γ : En X.K} {r : Option ρ} {α : Type} {c : Cod X.K α} {es : List Expr} {J : List α → En X.K → Option ρ → Prop} : CoeFun (EL X C Γ es c r J) (fun _ => ∀ (z : ρ) σ W H (Q : List V → Hp → Prop), Sat C Γ σ W H → r = some z →
    (∀ x Γ' r' W' H' vs, J x Γ' r' → r' = some z → Sat C Γ' σ W' H' → Same W W' → Row c W' vs x → x.length = es.length → Q vs H') → wpa X es σ H Q) := ⟨EL.run⟩
/-- one knowledge gives another -/
def Wk {K : Frag} (C : Ct) (Γ Γ' : En K) : Prop := ∀ σ W H, Sat C Γ σ W H → ∃ W', Same W W' ∧ Sat C Γ' σ W' H
theorem wk_refl {K : Frag} {C : Ct} {Γ : En K} : Wk C Γ Γ := fun _ W _ s => ⟨W, Same.refl _, s⟩
theorem wk_of {K : Frag} {C : Ct} {Γ Γ' : En K} (h : Γ = Γ' := by rfl) : Wk C Γ Γ' := by subst h; exact wk_refl
theorem Wk.trans {K : Frag} {C : Ct} {Γ Γ' Γ2 : En K} (a : Wk C Γ Γ') (b : Wk C Γ' Γ2) : Wk C Γ Γ2 := fun σ W H s => by
  obtain ⟨W1, e1, s1⟩ := a σ W H s
  obtain ⟨W2, e2, s2⟩ := b σ W1 H s1
  exact ⟨W2, e1.trans e2, s2⟩
theorem wk_drop {K : Frag} {C : Ct} {Γ : En K} (i : Nat) : Wk C Γ (Γ.set i .no) := fun _ W _ s => ⟨W, Same.refl _, s.drop i⟩
abbrev drops {K : Frag} : List Nat → En K → En K := drops0
theorem wk_drops' {K : Frag} {C : Ct} : ∀ (is : List Nat) {Γ : En K}, Wk C Γ (drops is Γ)
  | [], _ => wk_refl
  | i :: is, _ => (wk_drop i).trans (wk_drops' is)
theorem wk_drops {K : Frag} {C : Ct} {Γ Γ' : En K} (is : List Nat) (h : drops is Γ = Γ' := by rfl) : Wk C Γ Γ' := by subst h; exact wk_drops' is

section
variable {X : Cx} {C : Ct} {ρ α β γ : Type} {Γ : En X.K} {e a b : Expr} {es : List Expr} {r : Option ρ} {pos : Pos}
theorem getD_some {σ : L2.St} {i : Nat} {v : V} (h : σ[i]?.getD none = some v) : σ[i]? = some (some v) := by
  cases q : σ[i]? with
  | none => rw [q] at h; cases h
  | some w => rw [q] at h; rw [show w = some v from h]
theorem ex_var {c : Cod X.K α} {x : α} {J : α → En X.K → Option ρ → Prop} {n : Str} (i : Nat) (hJ : J x Γ r) (hΓ : Γ[i]? = some (.im c x) := by rfl) (hN : X.N[i]? = some n := by rfl)
    (hv : Vis X.env.scope n := by first | exact Or.inl rfl | exact Or.inr (Or.inl rfl) | exact Or.inr (Or.inr rfl)) (hd : (n == ("__debug__" : Str)) = false := by decide) (hcd : (n == ("__classdict__" : Str)) = false := by decide) : EX X C Γ (.Name n pos) c r J :=
  .mk fun z σ W H Q s hr k => by
    obtain ⟨v, e1, e2⟩ := s.sl i _ hΓ
    exact w_pe (pe_var hN hv hd hcd) ⟨v, getD_some e1, k x Γ r W H v hJ hr s (Same.refl _) e2⟩
theorem ex_int {J : Int → En X.K → Option ρ → Prop} {i : Int} {j} (hJ : J i Γ r) : EX X C Γ (.Constant (.int i) j pos) cInt r J := .mk fun z σ W H Q s hr k => w_pe pe_int (k i Γ r W H _ hJ hr s (Same.refl _) rfl)
theorem ex_bl {J : Bool → En X.K → Option ρ → Prop} {i : Bool} {j} (hJ : J i Γ r) : EX X C Γ (.Constant (.bool i) j pos) cBool r J := .mk fun z σ W H Q s hr k => w_pe pe_bl (k i Γ r W H _ hJ hr s (Same.refl _) rfl)
theorem ex_str {J : Str → En X.K → Option ρ → Prop} {i : Str} {j} (hJ : J i Γ r) : EX X C Γ (.Constant (.str i) j pos) cStr r J := .mk fun z σ W H Q s hr k => w_pe pe_str (k i Γ r W H _ hJ hr s (Same.refl _) rfl)
theorem ex_none {J : Unit → En X.K → Option ρ → Prop} {j} (hJ : J () Γ r) : EX X C Γ (.Constant .none j pos) cNon r J := .mk fun z σ W H Q s hr k => w_pe pe_non (k () Γ r W H _ hJ hr s (Same.refl _) rfl)
/-- the same value read by another codec -/
theorem ex_as {c : Cod X.K α} {c' : Cod X.K β} {J : β → En X.K → Option ρ → Prop} (g : α → β) (hg : ∀ {H : Hp} {v : V} {x : α}, c.rp H v x → c'.rp H v (g x)) (h : EX X C Γ e c r fun x Γ' r' => J (g x) Γ' r') : EX X C Γ e c' r J :=
  .mk fun z σ W H Q s hr k => h z σ W H Q s hr fun x Γ' r' W' H' v j hr' s' w q => k (g x) Γ' r' W' H' v j hr' s' w (hg q)
theorem ex_u {c : Cod X.K α} {J : U → En X.K → Option ρ → Prop} (h : EX X C Γ e c r fun x Γ' r' => J (c.u x) Γ' r') : EX X C Γ e cU r J := ex_as c.u (fun q => c.ru q) h
theorem ex_wk {c : Cod X.K α} {J : α → En X.K → Option ρ → Prop} {Γ' : En X.K} (w : Wk C Γ Γ') (h : EX X C Γ' e c r J) : EX X C Γ e c r J := .mk fun z σ W H Q s hr k => by
  obtain ⟨W1, w1, s1⟩ := w σ W H s
  exact h z σ W1 H Q s1 hr fun x Γ2 r2 W2 H2 v j hr2 s2 w2 q => k x Γ2 r2 W2 H2 v j hr2 s2 (w1.trans w2) q

/-! operators -/
/-- a two-place operation on typed values -/
def Op2 (X : Cx) (f : Value → Value → Sem Value) (c1 : Cod X.K α) (c2 : Cod X.K β) (c3 : Cod X.K γ) (g : α → β → Option γ) : Prop :=
  ∃ r : R2, OpR X f r ∧ ∀ W H x y v u z (Q : VK), Same W H → c1.rp W v x → c2.rp W u y → g x y = some z → (∀ w W' H', Grow W H W' H' → c3.rp W' w z → Q w H') → r v u H Q
theorem ex_op2 {op : Operator} {c1 : Cod X.K α} {c2 : Cod X.K β} {c3 : Cod X.K γ} {g : α → β → Option γ} {J : γ → En X.K → Option ρ → Prop} (o : Op2 X (binaryOp op) c1 c2 c3 g)
    (h : EX X C Γ a c1 r fun x Γ1 r1 => EX X C Γ1 b c2 r1 fun y Γ2 r2 => ∃ k, r2 = g x y >>= k ∧ ∀ z, J z Γ2 (k z)) : EX X C Γ (.BinOp a op b pos) c3 r J := .mk fun z σ W H Q s hr k => by
  obtain ⟨ro, ho, hf⟩ := o
  refine w_pe (pe_op ho pe_w pe_w) (h z σ W H _ s hr fun x Γ1 r1 W1 H1 v j1 hr1 s1 w1 q1 => j1 z σ W1 H1 _ s1 hr1 fun y Γ2 r2 W2 H2 u j2 hr2 s2 w2 q2 => ?_)
  obtain ⟨k2, e2, j2⟩ := j2
  rw [e2] at hr2
  cases hg : g x y with
  | none => rw [hg] at hr2; cases hr2
  | some t =>
    rw [hg] at hr2
    exact hf W2 H2 x y v u t _ s2.sub (c1.mono w2 q1) q2 hg fun w W3 H3 G q3 => k t Γ2 (k2 t) W3 H3 w (j2 t) hr2 (s2.grow G) ((w1.trans w2).trans G.w) q3
/-- .. that always goes -/
theorem ex_op2T {op : Operator} {c1 : Cod X.K α} {c2 : Cod X.K β} {c3 : Cod X.K γ} {g : α → β → γ} {J : γ → En X.K → Option ρ → Prop} (o : Op2 X (binaryOp op) c1 c2 c3 fun x y => some (g x y))
    (h : EX X C Γ a c1 r fun x Γ1 r1 => EX X C Γ1 b c2 r1 fun y Γ2 r2 => J (g x y) Γ2 r2) : EX X C Γ (.BinOp a op b pos) c3 r J := .mk fun z σ W H Q s hr k => by
  obtain ⟨ro, ho, hf⟩ := o
  refine w_pe (pe_op ho pe_w pe_w) (h z σ W H _ s hr fun x Γ1 r1 W1 H1 v j1 hr1 s1 w1 q1 => j1 z σ W1 H1 _ s1 hr1 fun y Γ2 r2 W2 H2 u j2 hr2 s2 w2 q2 => ?_)
  exact hf W2 H2 x y v u _ _ s2.sub (c1.mono w2 q1) q2 rfl fun w W3 H3 G q3 => k _ Γ2 r2 W3 H3 w j2 hr2 (s2.grow G) ((w1.trans w2).trans G.w) q3
theorem ex_cmp {op : CmpOp} {c1 : Cod X.K α} {c2 : Cod X.K β} {g : α → β → Bool} {J : Bool → En X.K → Option ρ → Prop} (o : Op2 X (compareOp op) c1 c2 cBool fun x y => some (g x y))
    (h : EX X C Γ a c1 r fun x Γ1 r1 => EX X C Γ1 b c2 r1 fun y Γ2 r2 => J (g x y) Γ2 r2) (hm : behindInMarks op b = false := by first | exact nomark _ | rfl) : EX X C Γ (.Compare a [op] [b] pos) cBool r J := .mk fun z σ W H Q s hr k => by
  obtain ⟨ro, ho, hf⟩ := o
  refine w_pe (pe_cmpR ho pe_w pe_w hm) (h z σ W H _ s hr fun x Γ1 r1 W1 H1 v j1 hr1 s1 w1 q1 => j1 z σ W1 H1 _ s1 hr1 fun y Γ2 r2 W2 H2 u j2 hr2 s2 w2 q2 => ?_)
  exact hf W2 H2 x y v u _ _ s2.sub (c1.mono w2 q1) q2 rfl fun w W3 H3 G q3 => k _ Γ2 r2 W3 H3 w j2 hr2 (s2.grow G) ((w1.trans w2).trans G.w) q3
theorem et_cmp {op : CmpOp} {c1 : Cod X.K α} {c2 : Cod X.K β} {g : α → β → Bool} {J : Bool → En X.K → Option ρ → Prop} (o : Op2 X (compareOp op) c1 c2 cBool fun x y => some (g x y))
    (h : EX X C Γ a c1 r fun x Γ1 r1 => EX X C Γ1 b c2 r1 fun y Γ2 r2 => J (g x y) Γ2 r2) (hm : behindInMarks op b = false := by first | exact nomark _ | rfl) : ET X C Γ (.Compare a [op] [b] pos) r J := .mk fun z σ W H Q s hr k => by
  obtain ⟨ro, ho, hf⟩ := o
  refine w_pt (pt_cmpR ho pe_w pe_w hm) (h z σ W H _ s hr fun x Γ1 r1 W1 H1 v j1 hr1 s1 w1 q1 => j1 z σ W1 H1 _ s1 hr1 fun y Γ2 r2 W2 H2 u j2 hr2 s2 w2 q2 => ?_)
  exact hf W2 H2 x y v u _ _ s2.sub (c1.mono w2 q1) q2 rfl fun w W3 H3 G q3 => ⟨_, q3, k _ Γ2 r2 W3 H3 j2 hr2 (s2.grow G) ((w1.trans w2).trans G.w)⟩
def mulR (x y : Int) : Option Int := if x.natAbs.log2 + y.natAbs.log2 < 1000000 then some (x * y) else none
def fdivR (x y : Int) : Option Int := if y ≠ 0 ∧ y.natAbs.log2 < 9000 then some (x.fdiv y) else none
def fmodR (x y : Int) : Option Int := if y ≠ 0 then some (x.fmod y) else none
def powR (x y : Int) : Option Int := if 0 ≤ y ∧ y ≤ 1000000 ∧ x.natAbs < 2 ^ 64 then some (x ^ y.toNat) else none
theorem op2I {f : Value → Value → Sem Value} {g : Int → Int → Int} (h : OpR X f (rI0 fun i j => .int (g i j))) : Op2 X f cInt cInt cInt fun x y => some (g x y) :=
  ⟨_, h, fun W H x y v u z Q sb h1 h2 e k => by cases h1; cases h2; cases e; exact ⟨x, y, rfl, rfl, k _ W H (Grow.refl sb) rfl⟩⟩
theorem op2B {f : Value → Value → Sem Value} {g : Int → Int → Bool} (h : OpR X f (rI0 fun i j => .bl (g i j))) : Op2 X f cInt cInt cBool fun x y => some (g x y) :=
  ⟨_, h, fun W H x y v u z Q sb h1 h2 e k => by cases h1; cases h2; cases e; exact ⟨x, y, rfl, rfl, k _ W H (Grow.refl sb) rfl⟩⟩
theorem o_add : Op2 X (binaryOp .Add) cInt cInt cInt fun x y => some (x + y) := op2I op_add
theorem o_sub : Op2 X (binaryOp .Sub) cInt cInt cInt fun x y => some (x - y) := op2I op_sub
theorem o_mul : Op2 X (binaryOp .Mult) cInt cInt cInt mulR := ⟨_, op_mulW, fun W H x y v u z Q sb h1 h2 e k => by
  cases h1; cases h2
  unfold mulR at e
  split at e
  · rename_i hc
    cases e
    exact ⟨x, y, rfl, rfl, hc, k _ W H (Grow.refl sb) rfl⟩
  · cases e⟩
def CDivG (_ j : Int) : Prop := j ≠ 0 ∧ j.natAbs.log2 < 9000
theorem op_fdivG : OpR X (binaryOp .FloorDiv) (rI CDivG fun i j => .int (i.fdiv j)) := opI fun i j _ _ _ _ _ hc q => floordiv_int hc.1 q (.inl (PyProof.noPylong_of_log2 hc.2))
theorem o_fdiv : Op2 X (binaryOp .FloorDiv) cInt cInt cInt fdivR := ⟨_, op_fdivG, fun W H x y v u z Q sb h1 h2 e k => by
  cases h1; cases h2
  unfold fdivR at e
  split at e
  · rename_i hc
    cases e
    exact ⟨x, y, rfl, rfl, hc, k _ W H (Grow.refl sb) rfl⟩
  · cases e⟩
theorem o_mod : Op2 X (binaryOp .Mod) cInt cInt cInt fmodR := ⟨_, op_modN, fun W H x y v u z Q sb h1 h2 e k => by
  cases h1; cases h2
  unfold fmodR at e
  split at e
  · rename_i hc
    cases e
    exact ⟨x, y, rfl, rfl, hc, k _ W H (Grow.refl sb) rfl⟩
  · cases e⟩
theorem o_pow : Op2 X (binaryOp .Pow) cInt cInt cInt powR := ⟨_, op_pow, fun W H x y v u z Q sb h1 h2 e k => by
  cases h1; cases h2
  unfold powR at e
  split at e
  · rename_i hc
    cases e
    exact ⟨x, y, rfl, rfl, hc, k _ W H (Grow.refl sb) rfl⟩
  · cases e⟩
theorem o_lt : Op2 X (compareOp .Lt) cInt cInt cBool fun x y => some (decide (x < y)) := op2B op_lt
theorem o_le : Op2 X (compareOp .LtE) cInt cInt cBool fun x y => some (decide (x ≤ y)) := op2B op_le
theorem o_gt : Op2 X (compareOp .Gt) cInt cInt cBool fun x y => some (decide (y < x)) := op2B op_gt
theorem o_ge : Op2 X (compareOp .GtE) cInt cInt cBool fun x y => some (decide (y ≤ x)) := op2B op_ge
theorem o_eq : Op2 X (compareOp .Eq) cInt cInt cBool fun x y => some (decide (x = y)) := ⟨_, op_eq, fun W H x y v u z Q sb h1 h2 e k => by
  cases h1; cases h2; cases e
  refine ⟨rfl, k _ W H (Grow.refl sb) ?_⟩
  show V.bl _ = V.bl _
  rw [dec_int, Bool.beq_eq_decide_eq]⟩
theorem o_ne : Op2 X (compareOp .NotEq) cInt cInt cBool fun x y => some (!decide (x = y)) := ⟨_, op_ne, fun W H x y v u z Q sb h1 h2 e k => by
  cases h1; cases h2; cases e
  refine ⟨rfl, k _ W H (Grow.refl sb) ?_⟩
  show V.bl _ = V.bl _
  rw [dec_int, Bool.beq_eq_decide_eq]⟩
theorem o_eqS : Op2 X (compareOp .Eq) cStr cStr cBool fun x y => some (decide (x = y)) := ⟨_, op_eq, fun W H x y v u z Q sb h1 h2 e k => by
  cases h1; cases h2; cases e
  refine ⟨rfl, k _ W H (Grow.refl sb) ?_⟩
  show V.bl _ = V.bl _
  rw [dec_str, Bool.beq_eq_decide_eq]⟩
theorem o_neS : Op2 X (compareOp .NotEq) cStr cStr cBool fun x y => some (!decide (x = y)) := ⟨_, op_ne, fun W H x y v u z Q sb h1 h2 e k => by
  cases h1; cases h2; cases e
  refine ⟨rfl, k _ W H (Grow.refl sb) ?_⟩
  show V.bl _ = V.bl _
  rw [dec_str, Bool.beq_eq_decide_eq]⟩
theorem o_eqB : Op2 X (compareOp .Eq) cBool cBool cBool fun x y => some (decide (x = y)) := ⟨_, op_eq, fun W H x y v u z Q sb h1 h2 e k => by
  cases h1; cases h2; cases e
  refine ⟨rfl, k _ W H (Grow.refl sb) ?_⟩
  show V.bl _ = V.bl _
  rw [dec_bl, Bool.beq_eq_decide_eq]⟩
theorem o_neB : Op2 X (compareOp .NotEq) cBool cBool cBool fun x y => some (!decide (x = y)) := ⟨_, op_ne, fun W H x y v u z Q sb h1 h2 e k => by
  cases h1; cases h2; cases e
  refine ⟨rfl, k _ W H (Grow.refl sb) ?_⟩
  show V.bl _ = V.bl _
  rw [dec_bl, Bool.beq_eq_decide_eq]⟩
theorem ex_neg {J : Int → En X.K → Option ρ → Prop} (h : EX X C Γ a cInt r fun x Γ1 r1 => J (-x) Γ1 r1) : EX X C Γ (.UnaryOp .USub a pos) cInt r J := .mk fun z σ W H Q s hr k =>
  w_pe (pe_un un_neg pe_w) (h z σ W H _ s hr fun x Γ1 r1 W1 H1 v j1 hr1 s1 w1 q1 => ⟨x, q1, k _ Γ1 r1 W1 H1 _ j1 hr1 s1 w1 rfl⟩)
/-- is None, is not None, of an optional value -/
theorem et_isN {c : Cod X.K α} {J : Bool → En X.K → Option ρ → Prop} {j p2} (h : EX X C Γ a (cOpt c) r fun x Γ1 r1 => J (x.isNone) Γ1 r1) : ET X C Γ (.Compare a [.Is] [.Constant .none j p2] pos) r J := .mk fun z σ W H Q s hr k =>
  w_pt (pt_cmp (pc_isN pe_w)) (h z σ W H _ s hr fun x Γ1 r1 W1 H1 v j1 hr1 s1 w1 q1 => ⟨_, rfl, by
    have e : decide (v = V.non) = x.isNone := by
      cases x with
      | none => rw [show v = V.non from q1]; rfl
      | some y => exact decide_eq_false q1.1
    rw [e]; exact k _ Γ1 r1 W1 H1 j1 hr1 s1 w1⟩)
theorem et_notN {c : Cod X.K α} {J : Bool → En X.K → Option ρ → Prop} {j p2} (h : EX X C Γ a (cOpt c) r fun x Γ1 r1 => J (x.isSome) Γ1 r1) : ET X C Γ (.Compare a [.IsNot] [.Constant .none j p2] pos) r J := .mk fun z σ W H Q s hr k =>
  w_pt (pt_cmp (pc_notN pe_w)) (h z σ W H _ s hr fun x Γ1 r1 W1 H1 v j1 hr1 s1 w1 q1 => ⟨_, rfl, by
    have e : (!decide (v = V.non)) = x.isSome := by
      cases x with
      | none => rw [show v = V.non from q1]; rfl
      | some y => rw [decide_eq_false q1.1]; rfl
    rw [e]; exact k _ Γ1 r1 W1 H1 j1 hr1 s1 w1⟩)

/-! tests -/
theorem et_val {J : Bool → En X.K → Option ρ → Prop} (h : EX X C Γ e cBool r J) (he : ∀ whole, isTrue e X.env whole = (do let v ← whole; standAt e.pos; holding [v] (truthy v)) := by intro _; rfl) : ET X C Γ e r J := .mk fun z σ W H Q s hr k =>
  w_pt (pt_val pe_w he) (h z σ W H _ s hr fun x Γ1 r1 W1 H1 v j1 hr1 s1 w1 q1 => ⟨x, q1, k _ Γ1 r1 W1 H1 j1 hr1 s1 w1⟩)
theorem et_w {J : Bool → En X.K → Option ρ → Prop} (h : EW X C Γ e r J) : ET X C Γ e r J := .mk fun z σ W H Q s hr k => w_pt pw_w.pt (h z σ W H _ s hr k)
/-- what a part gives, told by a state s -/
def Fin {K : Frag} (C : Ct) {δ : Type} (px : δ → α) (Γs : δ → En K) : α → En K → Option δ → Prop := fun x Γ' r' => ∃ s, r' = some s ∧ px s = x ∧ Wk C Γ' (Γs s)
theorem Fin.use {K : Frag} {C : Ct} {δ : Type} {px : δ → α} {Γs : δ → En K} {x : α} {Γ' : En K} {r' : Option δ} {s : δ} (h : Fin C px Γs x Γ' r') (e : r' = some s) : px s = x ∧ Wk C Γ' (Γs s) := by
  obtain ⟨s', e1, e2, e3⟩ := h
  rw [e] at e1; cases e1
  exact ⟨e2, e3⟩
theorem fin {K : Frag} {C : Ct} {δ : Type} {px : δ → α} {Γs : δ → En K} {Γ' : En K} {s : δ} (w : Wk C Γ' (Γs s)) : Fin C px Γs (px s) Γ' (some s) := ⟨s, rfl, rfl, w⟩
theorem ew_not {J : Bool → En X.K → Option ρ → Prop} (h : ET X C Γ a r fun x Γ1 r1 => J (!x) Γ1 r1) : ET X C Γ (.UnaryOp .Not a pos) r J := .mk fun z σ W H Q s hr k =>
  w_pt (pt_not pt_w) (h z σ W H _ s hr fun x Γ1 r1 W1 H1 j1 hr1 s1 w1 => k _ Γ1 r1 W1 H1 j1 hr1 s1 w1)
theorem ew_and1 {J : Bool → En X.K → Option ρ → Prop} (h : ET X C Γ a r J) : EW X C Γ (.BoolOp .And [a] pos) r J := .mk fun z σ W H Q s hr k => w_pw (pw_and1 pt_w) (h z σ W H _ s hr k)
theorem ew_or1 {J : Bool → En X.K → Option ρ → Prop} (h : ET X C Γ a r J) : EW X C Γ (.BoolOp .Or [a] pos) r J := .mk fun z σ W H Q s hr k => w_pw (pw_or1 pt_w) (h z σ W H _ s hr k)
/-- a and b, b asked only where a is true; δ: what b may change -/
theorem ew_and {δ : Type} {rest : List Expr} {J : Bool → En X.K → Option ρ → Prop} (px : δ → Bool) (Γs : δ → En X.K)
    (h : ET X C Γ a r fun x Γ1 r1 => ∃ m s0 k, r1 = (cond x m (some s0)) >>= k ∧ px s0 = false ∧ Wk C Γ1 (Γs s0) ∧ EW X C Γ1 (.BoolOp .And (b :: rest) pos) m (Fin C px Γs) ∧ ∀ s, J (px s) (Γs s) (k s)) : EW X C Γ (.BoolOp .And (a :: b :: rest) pos) r J := .mk fun z σ W H Q s hr k => by
  refine w_pw (pw_and pt_w pw_w) (h z σ W H _ s hr fun x Γ1 r1 W1 H1 j1 hr1 s1 w1 => ?_)
  obtain ⟨m, s0, k1, e1, p0, g0, hb, jj⟩ := j1
  cases x with
  | true =>
    rw [if_pos rfl]
    rw [e1] at hr1
    have hr1 : m >>= k1 = some z := hr1
    cases hm : m with
    | none => rw [hm] at hr1; cases hr1
    | some t =>
      rw [hm] at hr1
      refine hb t σ W1 H1 _ s1 hm fun x Γ2 r2 W2 H2 j2 hr2 s2 w2 => ?_
      obtain ⟨e3, wk⟩ := j2.use hr2
      obtain ⟨W3, w3, s3⟩ := wk σ W2 H2 s2
      rw [← e3]
      exact k _ _ _ W3 H2 (jj t) hr1 s3 ((w1.trans w2).trans w3)
  | false =>
    rw [if_neg Bool.false_ne_true]
    rw [e1] at hr1
    obtain ⟨W3, w3, s3⟩ := g0 σ W1 H1 s1
    rw [← p0]
    exact k _ _ _ W3 H1 (jj s0) hr1 s3 (w1.trans w3)
theorem ew_or {δ : Type} {rest : List Expr} {J : Bool → En X.K → Option ρ → Prop} (px : δ → Bool) (Γs : δ → En X.K)
    (h : ET X C Γ a r fun x Γ1 r1 => ∃ m s0 k, r1 = (cond x (some s0) m) >>= k ∧ px s0 = true ∧ Wk C Γ1 (Γs s0) ∧ EW X C Γ1 (.BoolOp .Or (b :: rest) pos) m (Fin C px Γs) ∧ ∀ s, J (px s) (Γs s) (k s)) : EW X C Γ (.BoolOp .Or (a :: b :: rest) pos) r J := .mk fun z σ W H Q s hr k => by
  refine w_pw (pw_or pt_w pw_w) (h z σ W H _ s hr fun x Γ1 r1 W1 H1 j1 hr1 s1 w1 => ?_)
  obtain ⟨m, s0, k1, e1, p0, g0, hb, jj⟩ := j1
  cases x with
  | false =>
    rw [if_neg Bool.false_ne_true]
    rw [e1] at hr1
    have hr1 : m >>= k1 = some z := hr1
    cases hm : m with
    | none => rw [hm] at hr1; cases hr1
    | some t =>
      rw [hm] at hr1
      refine hb t σ W1 H1 _ s1 hm fun x Γ2 r2 W2 H2 j2 hr2 s2 w2 => ?_
      obtain ⟨e3, wk⟩ := j2.use hr2
      obtain ⟨W3, w3, s3⟩ := wk σ W2 H2 s2
      rw [← e3]
      exact k _ _ _ W3 H2 (jj t) hr1 s3 ((w1.trans w2).trans w3)
  | true =>
    rw [if_pos rfl]
    rw [e1] at hr1
    obtain ⟨W3, w3, s3⟩ := g0 σ W1 H1 s1
    rw [← p0]
    exact k _ _ _ W3 H1 (jj s0) hr1 s3 (w1.trans w3)
/-- where b changes nothing and always goes: a && b -/
theorem ew_andT {rest : List Expr} {J : Bool → En X.K → Option ρ → Prop}
    (h : ET X C Γ a r fun x Γ1 r1 => ∃ y, EW X C Γ1 (.BoolOp .And (b :: rest) pos) (some y) (Fin C (fun x => x) fun _ => Γ1) ∧ J (x && y) Γ1 r1) : EW X C Γ (.BoolOp .And (a :: b :: rest) pos) r J := .mk fun z σ W H Q s hr k => by
  refine w_pw (pw_and pt_w pw_w) (h z σ W H _ s hr fun x Γ1 r1 W1 H1 j1 hr1 s1 w1 => ?_)
  obtain ⟨y, hb, jj⟩ := j1
  cases x with
  | true =>
    rw [if_pos rfl]
    refine hb y σ W1 H1 _ s1 rfl fun x Γ2 r2 W2 H2 j2 hr2 s2 w2 => ?_
    obtain ⟨e3, wk⟩ := j2.use hr2
    obtain ⟨W3, w3, s3⟩ := wk σ W2 H2 s2
    rw [← e3]
    exact k _ _ _ W3 H2 jj hr1 s3 ((w1.trans w2).trans w3)
  | false =>
    rw [if_neg Bool.false_ne_true]
    exact k _ _ _ W1 H1 jj hr1 s1 w1
theorem ew_orT {rest : List Expr} {J : Bool → En X.K → Option ρ → Prop}
    (h : ET X C Γ a r fun x Γ1 r1 => ∃ y, EW X C Γ1 (.BoolOp .Or (b :: rest) pos) (some y) (Fin C (fun x => x) fun _ => Γ1) ∧ J (x || y) Γ1 r1) : EW X C Γ (.BoolOp .Or (a :: b :: rest) pos) r J := .mk fun z σ W H Q s hr k => by
  refine w_pw (pw_or pt_w pw_w) (h z σ W H _ s hr fun x Γ1 r1 W1 H1 j1 hr1 s1 w1 => ?_)
  obtain ⟨y, hb, jj⟩ := j1
  cases x with
  | false =>
    rw [if_neg Bool.false_ne_true]
    refine hb y σ W1 H1 _ s1 rfl fun x Γ2 r2 W2 H2 j2 hr2 s2 w2 => ?_
    obtain ⟨e3, wk⟩ := j2.use hr2
    obtain ⟨W3, w3, s3⟩ := wk σ W2 H2 s2
    rw [← e3]
    exact k _ _ _ W3 H2 jj hr1 s3 ((w1.trans w2).trans w3)
  | true =>
    rw [if_pos rfl]
    exact k _ _ _ W1 H1 jj hr1 s1 w1
/-- .. as values -/
theorem ex_one {op} {J : Bool → En X.K → Option ρ → Prop} (h : EX X C Γ a cBool r J) : EX X C Γ (.BoolOp op [a] pos) cBool r J := .mk fun z σ W H Q s hr k => w_pe (pe_one pe_w) (h z σ W H _ s hr k)
theorem ex_not {J : Bool → En X.K → Option ρ → Prop} (h : EX X C Γ a cBool r fun x Γ1 r1 => J (!x) Γ1 r1) : EX X C Γ (.UnaryOp .Not a pos) cBool r J := .mk fun z σ W H Q s hr k =>
  w_pe (pe_not pe_w) (h z σ W H _ s hr fun x Γ1 r1 W1 H1 v j1 hr1 s1 w1 q1 => ⟨x, q1, k _ Γ1 r1 W1 H1 _ j1 hr1 s1 w1 rfl⟩)
theorem ex_and {δ : Type} {rest : List Expr} {J : Bool → En X.K → Option ρ → Prop} (px : δ → Bool) (Γs : δ → En X.K)
    (h : EX X C Γ a cBool r fun x Γ1 r1 => ∃ m s0 k, r1 = (cond x m (some s0)) >>= k ∧ px s0 = false ∧ Wk C Γ1 (Γs s0) ∧ EX X C Γ1 (.BoolOp .And (b :: rest) pos) cBool m (Fin C px Γs) ∧ ∀ s, J (px s) (Γs s) (k s)) : EX X C Γ (.BoolOp .And (a :: b :: rest) pos) cBool r J := .mk fun z σ W H Q s hr k => by
  refine w_pe (pe_and pe_w pe_w) (h z σ W H _ s hr fun x Γ1 r1 W1 H1 v j1 hr1 s1 w1 q1 => ⟨x, q1, ?_⟩)
  obtain ⟨m, s0, k1, e1, p0, g0, hb, jj⟩ := j1
  cases x with
  | true =>
    rw [if_pos rfl]
    rw [e1] at hr1
    have hr1 : m >>= k1 = some z := hr1
    cases hm : m with
    | none => rw [hm] at hr1; cases hr1
    | some t =>
      rw [hm] at hr1
      refine hb t σ W1 H1 _ s1 hm fun x Γ2 r2 W2 H2 v2 j2 hr2 s2 w2 q2 => ?_
      obtain ⟨e3, wk⟩ := j2.use hr2
      obtain ⟨W3, w3, s3⟩ := wk σ W2 H2 s2
      rw [← e3] at q2
      exact k _ _ _ W3 H2 v2 (jj t) hr1 s3 ((w1.trans w2).trans w3) q2
  | false =>
    rw [if_neg Bool.false_ne_true]
    rw [e1] at hr1
    obtain ⟨W3, w3, s3⟩ := g0 σ W1 H1 s1
    exact k _ _ _ W3 H1 _ (jj s0) hr1 s3 (w1.trans w3) (by rw [p0]; rfl)
theorem ex_or {δ : Type} {rest : List Expr} {J : Bool → En X.K → Option ρ → Prop} (px : δ → Bool) (Γs : δ → En X.K)
    (h : EX X C Γ a cBool r fun x Γ1 r1 => ∃ m s0 k, r1 = (cond x (some s0) m) >>= k ∧ px s0 = true ∧ Wk C Γ1 (Γs s0) ∧ EX X C Γ1 (.BoolOp .Or (b :: rest) pos) cBool m (Fin C px Γs) ∧ ∀ s, J (px s) (Γs s) (k s)) : EX X C Γ (.BoolOp .Or (a :: b :: rest) pos) cBool r J := .mk fun z σ W H Q s hr k => by
  refine w_pe (pe_or pe_w pe_w) (h z σ W H _ s hr fun x Γ1 r1 W1 H1 v j1 hr1 s1 w1 q1 => ⟨x, q1, ?_⟩)
  obtain ⟨m, s0, k1, e1, p0, g0, hb, jj⟩ := j1
  cases x with
  | false =>
    rw [if_neg Bool.false_ne_true]
    rw [e1] at hr1
    have hr1 : m >>= k1 = some z := hr1
    cases hm : m with
    | none => rw [hm] at hr1; cases hr1
    | some t =>
      rw [hm] at hr1
      refine hb t σ W1 H1 _ s1 hm fun x Γ2 r2 W2 H2 v2 j2 hr2 s2 w2 q2 => ?_
      obtain ⟨e3, wk⟩ := j2.use hr2
      obtain ⟨W3, w3, s3⟩ := wk σ W2 H2 s2
      rw [← e3] at q2
      exact k _ _ _ W3 H2 v2 (jj t) hr1 s3 ((w1.trans w2).trans w3) q2
  | true =>
    rw [if_pos rfl]
    rw [e1] at hr1
    obtain ⟨W3, w3, s3⟩ := g0 σ W1 H1 s1
    exact k _ _ _ W3 H1 _ (jj s0) hr1 s3 (w1.trans w3) (by rw [p0]; rfl)
theorem ex_andT {rest : List Expr} {J : Bool → En X.K → Option ρ → Prop}
    (h : EX X C Γ a cBool r fun x Γ1 r1 => ∃ y, EX X C Γ1 (.BoolOp .And (b :: rest) pos) cBool (some y) (Fin C (fun x => x) fun _ => Γ1) ∧ J (x && y) Γ1 r1) : EX X C Γ (.BoolOp .And (a :: b :: rest) pos) cBool r J := .mk fun z σ W H Q s hr k => by
  refine w_pe (pe_and pe_w pe_w) (h z σ W H _ s hr fun x Γ1 r1 W1 H1 v j1 hr1 s1 w1 q1 => ⟨x, q1, ?_⟩)
  obtain ⟨y, hb, jj⟩ := j1
  cases x with
  | true =>
    rw [if_pos rfl]
    refine hb y σ W1 H1 _ s1 rfl fun x Γ2 r2 W2 H2 v2 j2 hr2 s2 w2 q2 => ?_
    obtain ⟨e3, wk⟩ := j2.use hr2
    obtain ⟨W3, w3, s3⟩ := wk σ W2 H2 s2
    rw [← e3] at q2
    exact k _ _ _ W3 H2 v2 jj hr1 s3 ((w1.trans w2).trans w3) q2
  | false =>
    rw [if_neg Bool.false_ne_true]
    exact k _ _ _ W1 H1 _ jj hr1 s1 w1 rfl
theorem ex_orT {rest : List Expr} {J : Bool → En X.K → Option ρ → Prop}
    (h : EX X C Γ a cBool r fun x Γ1 r1 => ∃ y, EX X C Γ1 (.BoolOp .Or (b :: rest) pos) cBool (some y) (Fin C (fun x => x) fun _ => Γ1) ∧ J (x || y) Γ1 r1) : EX X C Γ (.BoolOp .Or (a :: b :: rest) pos) cBool r J := .mk fun z σ W H Q s hr k => by
  refine w_pe (pe_or pe_w pe_w) (h z σ W H _ s hr fun x Γ1 r1 W1 H1 v j1 hr1 s1 w1 q1 => ⟨x, q1, ?_⟩)
  obtain ⟨y, hb, jj⟩ := j1
  cases x with
  | false =>
    rw [if_neg Bool.false_ne_true]
    refine hb y σ W1 H1 _ s1 rfl fun x Γ2 r2 W2 H2 v2 j2 hr2 s2 w2 q2 => ?_
    obtain ⟨e3, wk⟩ := j2.use hr2
    obtain ⟨W3, w3, s3⟩ := wk σ W2 H2 s2
    rw [← e3] at q2
    exact k _ _ _ W3 H2 v2 jj hr1 s3 ((w1.trans w2).trans w3) q2
  | true =>
    rw [if_pos rfl]
    exact k _ _ _ W1 H1 _ jj hr1 s1 w1 rfl
/-- a if t else b -/
theorem ex_if {δ : Type} {t : Expr} {c : Cod X.K α} {J : α → En X.K → Option ρ → Prop} (px : δ → α) (Γs : δ → En X.K)
    (h : ET X C Γ t r fun x Γ1 r1 => ∃ ma mb k, r1 = (cond x ma mb) >>= k ∧ EX X C Γ1 a c ma (Fin C px Γs) ∧ EX X C Γ1 b c mb (Fin C px Γs) ∧ ∀ s, J (px s) (Γs s) (k s)) : EX X C Γ (.IfExp t a b pos) c r J := .mk fun z σ W H Q s hr k => by
  refine w_pe (pe_ifExp pt_w pe_w pe_w) (h z σ W H _ s hr fun x Γ1 r1 W1 H1 j1 hr1 s1 w1 => ?_)
  obtain ⟨ma, mb, k1, e1, ha, hb, jj⟩ := j1
  rw [e1] at hr1
  have go : ∀ (m : Option δ) (d : Expr), m >>= k1 = some z → EX X C Γ1 d c m (Fin C px Γs) → wpe X d σ H1 Q := fun m d hr1 hd => by
    cases hm : m with
    | none => rw [hm] at hr1; cases hr1
    | some t =>
      rw [hm] at hr1
      refine hd t σ W1 H1 _ s1 hm fun x Γ2 r2 W2 H2 v2 j2 hr2 s2 w2 q2 => ?_
      obtain ⟨e3, wk⟩ := j2.use hr2
      obtain ⟨W3, w3, s3⟩ := wk σ W2 H2 s2
      rw [← e3] at q2
      exact k _ _ _ W3 H2 v2 (jj t) hr1 s3 ((w1.trans w2).trans w3) (c.mono w3 q2)
  cases x with
  | true => rw [if_pos rfl]; exact go ma a hr1 ha
  | false => rw [if_neg Bool.false_ne_true]; exact go mb b hr1 hb
theorem ex_ifT {t : Expr} {c : Cod X.K α} {J : α → En X.K → Option ρ → Prop}
    (h : ET X C Γ t r fun x Γ1 r1 => ∃ y y', EX X C Γ1 a c (some y) (Fin C (fun x => x) fun _ => Γ1) ∧ EX X C Γ1 b c (some y') (Fin C (fun x => x) fun _ => Γ1) ∧ J (cond x y y') Γ1 r1) : EX X C Γ (.IfExp t a b pos) c r J := .mk fun z σ W H Q s hr k => by
  refine w_pe (pe_ifExp pt_w pe_w pe_w) (h z σ W H _ s hr fun x Γ1 r1 W1 H1 j1 hr1 s1 w1 => ?_)
  obtain ⟨y, y', ha, hb, jj⟩ := j1
  have go : ∀ (y : α) (d : Expr), J y Γ1 r1 → EX X C Γ1 d c (some y) (Fin C (fun x => x) fun _ => Γ1) → wpe X d σ H1 Q := fun y d jj hd => by
    refine hd y σ W1 H1 _ s1 rfl fun x Γ2 r2 W2 H2 v2 j2 hr2 s2 w2 q2 => ?_
    obtain ⟨e3, wk⟩ := j2.use hr2
    obtain ⟨W3, w3, s3⟩ := wk σ W2 H2 s2
    rw [← e3] at q2
    exact k _ _ _ W3 H2 v2 jj hr1 s3 ((w1.trans w2).trans w3) (c.mono w3 q2)
  cases x with
  | true => rw [if_pos rfl]; exact go y a jj ha
  | false => rw [if_neg Bool.false_ne_true]; exact go y' b jj hb

/-! rows of arguments, displays -/
theorem ea_nil {J : Unit → En X.K → Option ρ → Prop} (h : J () Γ r) : EA X C Γ [] tc0 r J := .mk fun z σ W H Q s hr k => w_pa pa_nil (k () Γ r W H [] h hr s (Same.refl _) rfl)
theorem ea_one {c : Cod X.K α} {J : α → En X.K → Option ρ → Prop} (h : EX X C Γ e c r J) (hs : starEach [e] X.env = (false, eval e X.env) :: starEach [] X.env := by rfl) : EA X C Γ [e] (tc1 c) r J := .mk fun z σ W H Q s hr k =>
  w_pa (pa_cons pe_w pa_nil hs) (h z σ W H _ s hr fun x Γ1 r1 W1 H1 v j1 hr1 s1 w1 q1 => k x Γ1 r1 W1 H1 [v] j1 hr1 s1 w1 ⟨v, rfl, q1⟩)
theorem ea_cons {c : Cod X.K α} {t : TC X.K β} {J : α × β → En X.K → Option ρ → Prop} (h : EX X C Γ e c r fun x Γ1 r1 => EA X C Γ1 es t r1 fun y Γ2 r2 => J (x, y) Γ2 r2)
    (hs : starEach (e :: es) X.env = (false, eval e X.env) :: starEach es X.env := by rfl) : EA X C Γ (e :: es) (tcC c t) r J := .mk fun z σ W H Q s hr k =>
  w_pa (pa_cons pe_w pa_w hs) (h z σ W H _ s hr fun x Γ1 r1 W1 H1 v j1 hr1 s1 w1 q1 => j1 z σ W1 H1 _ s1 hr1 fun y Γ2 r2 W2 H2 vs j2 hr2 s2 w2 q2 =>
    k (x, y) Γ2 r2 W2 H2 (v :: vs) j2 hr2 s2 (w1.trans w2) ⟨v, vs, rfl, c.mono w2 q1, q2⟩)
theorem el_nil {c : Cod X.K α} {J : List α → En X.K → Option ρ → Prop} (h : J [] Γ r) : EL X C Γ [] c r J := .mk fun z σ W H Q s hr k => w_pa pa_nil (k [] Γ r W H [] h hr s (Same.refl _) .nil rfl)
theorem el_cons {c : Cod X.K α} {J : List α → En X.K → Option ρ → Prop} (h : EX X C Γ e c r fun x Γ1 r1 => EL X C Γ1 es c r1 fun y Γ2 r2 => J (x :: y) Γ2 r2)
    (hs : starEach (e :: es) X.env = (false, eval e X.env) :: starEach es X.env := by rfl) : EL X C Γ (e :: es) c r J := .mk fun z σ W H Q s hr k =>
  w_pa (pa_cons pe_w pa_w hs) (h z σ W H _ s hr fun x Γ1 r1 W1 H1 v j1 hr1 s1 w1 q1 => j1 z σ W1 H1 _ s1 hr1 fun y Γ2 r2 W2 H2 vs j2 hr2 s2 w2 q2 hl =>
    k (x :: y) Γ2 r2 W2 H2 (v :: vs) j2 hr2 s2 (w1.trans w2) (.cons (c.mono w2 q1) q2) (by rw [List.length_cons, List.length_cons, hl]))
theorem ex_tup {t : TC X.K α} {J : α → En X.K → Option ρ → Prop} {x1} (h : EA X C Γ es t r J) (hn : t.n ≤ 1000 := by exact Nat.le_of_ble_eq_true rfl) : EX X C Γ (.Tuple es x1 pos) (cTup t) r J := .mk fun z σ W H Q s hr k =>
  w_pe (pe_tup pa_w) (h z σ W H _ s hr fun x Γ1 r1 W1 H1 vs j1 hr1 s1 w1 q1 => ⟨by rw [t.len q1]; exact Nat.le_trans hn (by decide), fun p hp => by
    have G := Grow.new (o := .tup vs) s1.sub hp
    exact k x Γ1 r1 _ _ _ j1 hr1 (s1.grow G) (w1.trans G.w) ⟨p, vs, rfl, SqT.of upd_same, t.mono G.w q1⟩⟩)
theorem ex_tupS {c : Cod X.K α} {J : List α → En X.K → Option ρ → Prop} {x1} (h : EL X C Γ es c r J) (hn : es.length.ble 1000 = true := by rfl) : EX X C Γ (.Tuple es x1 pos) (cSeq c) r J := .mk fun z σ W H Q s hr k =>
  w_pe (pe_tup pa_w) (h z σ W H _ s hr fun x Γ1 r1 W1 H1 vs j1 hr1 s1 w1 q1 hl => ⟨by rw [q1.length, hl]; exact Nat.le_trans (Nat.le_of_ble_eq_true hn) (by decide), fun p hp => by
    have G := Grow.new (o := .tup vs) s1.sub hp
    exact k x Γ1 r1 _ _ _ j1 hr1 (s1.grow G) (w1.trans G.w) ⟨p, vs, rfl, SqT.of upd_same, q1.mono G.w⟩⟩)
theorem ex_lst {c : Cod X.K α} {J : List α → En X.K → Option ρ → Prop} (h : EL X C Γ es c r J) (hn : es.length.ble 1000 = true := by rfl) : EX X C Γ (.List es pos) (cLst c) r J := .mk fun z σ W H Q s hr k =>
  w_pe (pe_lst pa_w) (h z σ W H _ s hr fun x Γ1 r1 W1 H1 vs j1 hr1 s1 w1 q1 hl => ⟨by rw [q1.length, hl]; exact Nat.le_trans (Nat.le_of_ble_eq_true hn) (by decide), fun p hp => by
    have G := Grow.new (o := .lst vs) s1.sub hp
    exact k x Γ1 r1 _ _ _ j1 hr1 (s1.grow G) (w1.trans G.w) ⟨p, vs, rfl, upd_same, q1.mono G.w⟩⟩)
/-- a new object that nobody owns yet -/
theorem Sat.fresh {σ : L2.St} {W H : Hp} {p : Addr} {o : HO} (s : Sat C Γ σ W H) (hp : H p = none) : Sat C Γ σ W (upd H p o) ∧ W p = none ∧ C.H p = none ∧ Apart Γ σ p ∧ C.a ≠ some p := by
  have wp : W p = none := Same.free s.sub hp
  refine ⟨s.grow ⟨Same.refl _, fun b u e => by rw [upd_ne (ne_of_none e hp)]; exact e, fun b u e => by rw [upd_ne (ne_of_none e wp)]; exact s.sub b u e, fun _ _ h => h⟩, wp, ?_, s.apart hp, fun z => s.lb p (.inr z) hp⟩
  cases q : C.H p with
  | none => rfl
  | some u => exact absurd hp (s.li p (by rw [q]; simp))
theorem ef_lst {c : Cod X.K α} {J : List α → En X.K → Option ρ → Prop} (h : EL X C Γ es c r J) (hn : es.length.ble 1000 = true := by rfl) : EF X C Γ (.List es pos) (lstC c) r J := .mk fun z σ W H Q s hr k =>
  w_pe (pe_lst pa_w) (h z σ W H _ s hr fun x Γ1 r1 W1 H1 vs j1 hr1 s1 w1 q1 hl => ⟨by rw [q1.length, hl]; exact Nat.le_trans (Nat.le_of_ble_eq_true hn) (by decide), fun p hp => by
    obtain ⟨s2, wp, cp, ap, la⟩ := s1.fresh (o := .lst vs) hp
    exact k x Γ1 r1 _ _ p _ j1 hr1 s2 w1 wp cp upd_same ⟨vs, rfl, q1⟩ ap la⟩)
/-- a new list from now on stands still -/
theorem ex_froz {c : Cod X.K α} {J : List α → En X.K → Option ρ → Prop} (h : EF X C Γ e (lstC c) r J) : EX X C Γ e (cLst c) r J := .mk fun z σ W H Q s hr k =>
  h z σ W H _ s hr fun x Γ1 r1 W1 H1 p o j1 hr1 s1 w1 wp cp hp ct ap lap => by
    obtain ⟨vs, rfl, q⟩ := ct
    have w : Same W1 (upd W1 p (.lst vs)) := fun b u e => by rw [upd_ne (ne_of_none e wp)]; exact e
    refine k x Γ1 r1 _ H1 _ j1 hr1 ⟨fun i e he => ?_, s1.ap, fun b u e => ?_, s1.old.trans w, s1.la, s1.fr, s1.li, fun b h1 h2 => ?_, s1.lb⟩ (w1.trans w) ⟨p, vs, rfl, upd_same, q.mono w⟩
    · have t := s1.sl i e he
      cases e with
      | no => trivial
      | im d x => obtain ⟨v, h1, h2⟩ := t; exact ⟨v, h1, d.mono w h2⟩
      | ow d x =>
        obtain ⟨a, ob, f1, f2, f3, f4, f5⟩ := t
        have na : a ≠ p := fun z => by
          subst z
          exact ap i ⟨_, he, rfl⟩ (getD_some f1)
        exact ⟨a, ob, f1, by rw [upd_ne na]; exact f2, f3, f4, d.mono w f5⟩
      | lp => exact t
      | ln d x =>
        obtain ⟨a, ob, f1, f2, f4, f5⟩ := t
        have na : a ≠ p := fun z => by subst z; exact lap f1
        exact ⟨a, ob, f1, by rw [upd_ne na]; exact f2, f4, d.mono w f5⟩
    · by_cases hb : b = p
      · subst hb; rw [upd_same] at e; cases e; exact hp
      · rw [upd_ne hb] at e; exact s1.sub b u e
    · have hb : b ≠ p := fun z => by subst z; exact h1 cp
      rw [upd_ne hb]; exact s1.nw b h1 h2
end
end Ty

set_option maxHeartbeats 4000000
namespace Ty
open PySem PySem.Spec PyProof.Rows L2

section
variable {X : Cx} {C : Ct} {ρ α β γ : Type} {Γ : En X.K} {e a b : Expr} {es : List Expr} {r : Option ρ} {pos p p2 p3 : Pos}
theorem bind_some {δ : Type} {m : Option δ} {k : δ → Option ρ} {z : ρ} (h : m >>= k = some z) : ∃ t, m = some t ∧ k t = some z := by
  cases m with
  | none => cases h
  | some t => exact ⟨t, rfl, h⟩

/-! places -/
theorem ex_ixT {t : TC X.K α} {c : Cod X.K β} {p' : α → β} {i : Nat} {J : β → En X.K → Option ρ → Prop} {j} (n : Nth t i c p') (h : EX X C Γ a (cTup t) r fun x Γ1 r1 => J (p' x) Γ1 r1) : EX X C Γ (.Subscript a (.Constant (.int (i : Int)) j p2) pos) c r J := .mk fun z σ W H Q s hr k =>
  w_pe (pe_ix ix_tup pe_w pe_int (fun _ _ => rfl)) (h z σ W H _ s hr fun x Γ1 r1 W1 H1 v j1 hr1 s1 w1 q1 => by
    obtain ⟨ad, vs, rfl, h2, h3⟩ := q1
    obtain ⟨w, e1, e2⟩ := n.get h3
    exact ⟨ad, vs, (i : Int), w, rfl, rfl, Same.tup s1.sub h2, atI_nat e1, k _ Γ1 r1 W1 H1 w j1 hr1 s1 w1 e2⟩)
theorem row_ixN {c : Cod X.K α} {H : Hp} {vs : List V} {xs : List α} {i : Int} {x : α} (h : Row c H vs xs) (e : atI xs i = some x) : ∃ v, atI vs i = some v ∧ c.rp H v x := by
  unfold atI at e ⊢
  rw [h.length]
  cases q : ixN xs.length i with
  | none => rw [q] at e; cases e
  | some j => rw [q] at e; exact h.get (i := j) e
theorem ex_ixS {c : Cod X.K α} {J : α → En X.K → Option ρ → Prop} (h : EX X C Γ a (cSeq c) r fun x Γ1 r1 => EX X C Γ1 b cInt r1 fun i Γ2 r2 => ∃ k, r2 = atI x i >>= k ∧ ∀ z, J z Γ2 (k z)) (hp : PlainIx b := by exact fun _ _ => rfl) :
    EX X C Γ (.Subscript a b pos) c r J := .mk fun z σ W H Q s hr k =>
  w_pe (pe_ix ix_tup pe_w pe_w hp) (h z σ W H _ s hr fun x Γ1 r1 W1 H1 v j1 hr1 s1 w1 q1 => j1 z σ W1 H1 _ s1 hr1 fun i Γ2 r2 W2 H2 u j2 hr2 s2 w2 q2 => by
    obtain ⟨ad, vs, rfl, h2, h3⟩ := q1
    obtain ⟨k2, e2, j2⟩ := j2
    rw [e2] at hr2
    obtain ⟨t, et, ht⟩ := bind_some hr2
    obtain ⟨w, f1, f2⟩ := row_ixN (h3.mono w2) et
    exact ⟨ad, vs, i, w, rfl, q2, Same.tup s2.sub (Same.tup w2 h2), f1, k t Γ2 _ W2 H2 w (j2 t) ht s2 (w1.trans w2) f2⟩)
theorem ex_ixL {c : Cod X.K α} {J : α → En X.K → Option ρ → Prop} (h : EX X C Γ a (cLst c) r fun x Γ1 r1 => EX X C Γ1 b cInt r1 fun i Γ2 r2 => ∃ k, r2 = atI x i >>= k ∧ ∀ z, J z Γ2 (k z)) (hp : PlainIx b := by exact fun _ _ => rfl) :
    EX X C Γ (.Subscript a b pos) c r J := .mk fun z σ W H Q s hr k =>
  w_pe (pe_ix ix_list pe_w pe_w hp) (h z σ W H _ s hr fun x Γ1 r1 W1 H1 v j1 hr1 s1 w1 q1 => j1 z σ W1 H1 _ s1 hr1 fun i Γ2 r2 W2 H2 u j2 hr2 s2 w2 q2 => by
    obtain ⟨ad, vs, rfl, h2, h3⟩ := q1
    obtain ⟨k2, e2, j2⟩ := j2
    rw [e2] at hr2
    obtain ⟨t, et, ht⟩ := bind_some hr2
    obtain ⟨w, f1, f2⟩ := row_ixN (h3.mono w2) et
    exact ⟨ad, vs, i, w, rfl, q2, SqL.of (s2.sub _ _ (w2 _ _ h2)), f1, k t Γ2 _ W2 H2 w (j2 t) ht s2 (w1.trans w2) f2⟩)
/-- what a name owns, looked at -/
theorem Sat.seen {σ : L2.St} {W H : Hp} {i : Nat} {c : Cel X.K α} {x : α} (s : Sat C Γ σ W H) (h : Γ[i]? = some (.ow c x)) : ∃ ad o, σ[i]? = some (some (.ref ad)) ∧ H ad = some o ∧ c.ct W o x := by
  obtain ⟨ad, o, e1, e2, e3, e4, e5⟩ := s.sl i _ h
  exact ⟨ad, o, getD_some e1, e4, e5⟩
theorem vis_all {n : Str} (hv : Vis X.env.scope n) : Vis X.env.scope n := hv
theorem ex_ixO {c : Cod X.K α} {x : List α} {J : α → En X.K → Option ρ → Prop} {n : Str} (i : Nat)
    (h : EX X C Γ b cInt r fun j Γ1 r1 => Γ1[i]? = some (.ow (lstC c) x) ∧ ∃ k, r1 = atI x j >>= k ∧ ∀ z, J z Γ1 (k z)) (hN : X.N[i]? = some n := by rfl) (hΓ : Γ[i]? = some (.ow (lstC c) x) := by rfl)
    (hv : Vis X.env.scope n := by first | exact Or.inl rfl | exact Or.inr (Or.inl rfl) | exact Or.inr (Or.inr rfl)) (hp : PlainIx b := by exact fun _ _ => rfl) (hd : (n == ("__debug__" : Str)) = false := by decide) (hcd : (n == ("__classdict__" : Str)) = false := by decide) :
    EX X C Γ (.Subscript (.Name n p) b pos) c r J := .mk fun z σ W H Q s hr k =>
  w_pe (pe_ix ix_list (pe_var hN hv hd hcd) pe_w hp) (by
    obtain ⟨ad, o, e1, e4, vs, rfl, rw1⟩ := s.seen hΓ
    refine ⟨_, e1, h z σ W H _ s hr fun j Γ1 r1 W1 H1 v j1 hr1 s1 w1 q1 => ?_⟩
    obtain ⟨g1, k2, e2, j2⟩ := j1
    rw [e2] at hr1
    obtain ⟨t, et, ht⟩ := bind_some hr1
    obtain ⟨ad', o', f1, f4, vs', rfl, rw2⟩ := s1.seen g1
    rw [e1] at f1; cases f1
    obtain ⟨w, y1, y2⟩ := row_ixN rw2 et
    exact ⟨ad, vs', j, w, rfl, q1, SqL.of f4, y1, k t Γ1 _ W1 H1 w (j2 t) ht s1 w1 y2⟩)

/-! built-in functions -/
def CallB (X : Cx) (f : Value) (t : TC X.K α) (c : Cod X.K β) (g : α → Option β) : Prop :=
  ∃ r, CallR X f r ∧ ∀ W H vs x z (Q : VK), Same W H → t.rp W vs x → g x = some z → (∀ w W' H', Grow W H W' H' → c.rp W' w z → Q w H') → r vs H Q
/-- .. that give a new object -/
def CallN (X : Cx) (f : Value) (t : TC X.K α) (c : Cel X.K β) (g : α → Option β) : Prop :=
  ∃ r, CallR X f r ∧ ∀ W H vs x z (Q : VK), Same W H → t.rp W vs x → g x = some z → (∀ l o, H l = none → c.ct W o z → Q (.ref l) (upd H l o)) → r vs H Q
theorem CallB.use {f : Value} {t : TC X.K α} {c : Cod X.K β} {g : α → Option β} {J : β → En X.K → Option ρ → Prop} {rr : List V → Hp → VK → Prop} (hf : ∀ W H vs x z (Q : VK), Same W H → t.rp W vs x → g x = some z → (∀ w W' H', Grow W H W' H' → c.rp W' w z → Q w H') → rr vs H Q)
    (h : EA X C Γ es t r fun x Γ1 r1 => ∃ k, r1 = g x >>= k ∧ ∀ z, J z Γ1 (k z)) {z : ρ} {σ : L2.St} {W H : Hp} {Q : VK} (s : Sat C Γ σ W H) (hr : r = some z)
    (k : ∀ x Γ' r' W' H' v, J x Γ' r' → r' = some z → Sat C Γ' σ W' H' → Same W W' → c.rp W' v x → Q v H') : tCB rr (wpa X es) σ H Q :=
  h z σ W H _ s hr fun x Γ1 r1 W1 H1 vs j1 hr1 s1 w1 q1 => by
    obtain ⟨k2, e2, j2⟩ := j1
    rw [e2] at hr1
    obtain ⟨t, et, ht⟩ := bind_some hr1
    exact hf W1 H1 vs x t _ s1.sub q1 et fun w W2 H2 G q2 => k t Γ1 _ W2 H2 w (j2 t) ht (s1.grow G) (w1.trans G.w) q2
theorem CallN.use {f : Value} {t : TC X.K α} {c : Cel X.K β} {g : α → Option β} {J : β → En X.K → Option ρ → Prop} {rr : List V → Hp → VK → Prop} (hf : ∀ W H vs x z (Q : VK), Same W H → t.rp W vs x → g x = some z → (∀ l o, H l = none → c.ct W o z → Q (.ref l) (upd H l o)) → rr vs H Q)
    (h : EA X C Γ es t r fun x Γ1 r1 => ∃ k, r1 = g x >>= k ∧ ∀ z, J z Γ1 (k z)) {z : ρ} {σ : L2.St} {W H : Hp} {Q : VK} (s : Sat C Γ σ W H) (hr : r = some z)
    (k : ∀ x Γ' r' W' H' p o, J x Γ' r' → r' = some z → Sat C Γ' σ W' H' → Same W W' → W' p = none → C.H p = none → H' p = some o → c.ct W' o x → Apart Γ' σ p → C.a ≠ some p → Q (.ref p) H') : tCB rr (wpa X es) σ H Q :=
  h z σ W H _ s hr fun x Γ1 r1 W1 H1 vs j1 hr1 s1 w1 q1 => by
    obtain ⟨k2, e2, j2⟩ := j1
    rw [e2] at hr1
    obtain ⟨t, et, ht⟩ := bind_some hr1
    refine hf W1 H1 vs x t _ s1.sub q1 et fun l o hl ct => ?_
    obtain ⟨s2, wl, cl, ap, la⟩ := s1.fresh (o := o) hl
    exact k t Γ1 _ W1 _ l o (j2 t) ht s2 w1 wl cl upd_same ct ap la
variable {x : Str} {id T : String}
theorem ex_callB {t : TC X.K α} {c : Cod X.K β} {g : α → Option β} {J : β → En X.K → Option ρ → Prop} (o : CallB X (.builtin id) t c g) (hm : X.mg x = none) (hv : bootBuiltins x = some (.builtin id))
    (h : EA X C Γ (e :: es) t r fun x Γ1 r1 => ∃ k, r1 = g x >>= k ∧ ∀ z, J z Γ1 (k z)) (hg : Gl X x := by rfl) (hn : x ≠ "__name__" := by decide) (hdb : (x == ("__debug__" : Str)) = false := by decide)
    (he : starEach (e :: es) X.env = (false, eval e X.env) :: starEach es X.env := by rfl) (hpl : (backTo pos (starEach es X.env)).any (·.1) = false := by rfl) : EX X C Γ (.Call (.Name x p) (e :: es) [] pos) c r J := .mk fun z σ W H Q s hr k => by
  obtain ⟨rr, hc, hf⟩ := o
  exact w_pe (pe_callB hc hg hm hv pa_w hn hdb he hpl) (CallB.use (f := .builtin id) hf h s hr k)
theorem ex_callT {t : TC X.K α} {c : Cod X.K β} {g : α → Option β} {J : β → En X.K → Option ρ → Prop} (o : CallB X (.type T) t c g) (hm : X.mg x = none) (hv : bootBuiltins x = some (.type T))
    (h : EA X C Γ (e :: es) t r fun x Γ1 r1 => ∃ k, r1 = g x >>= k ∧ ∀ z, J z Γ1 (k z)) (hg : Gl X x := by rfl) (hn : x ≠ "__name__" := by decide) (hdb : (x == ("__debug__" : Str)) = false := by decide)
    (he : starEach (e :: es) X.env = (false, eval e X.env) :: starEach es X.env := by rfl) (hpl : (backTo pos (starEach es X.env)).any (·.1) = false := by rfl) : EX X C Γ (.Call (.Name x p) (e :: es) [] pos) c r J := .mk fun z σ W H Q s hr k => by
  obtain ⟨rr, hc, hf⟩ := o
  exact w_pe (pe_callTy hc hg hm hv pa_w hn hdb he hpl) (CallB.use (f := .type T) hf h s hr k)
theorem ex_callF {t : TC X.K α} {c : Cod X.K β} {g : α → Option β} {J : β → En X.K → Option ρ → Prop} (o : CallB X (.builtin id) t c g) (hm : X.mg x = some (.builtin id))
    (h : EA X C Γ (e :: es) t r fun x Γ1 r1 => ∃ k, r1 = g x >>= k ∧ ∀ z, J z Γ1 (k z)) (hg : Gl X x := by rfl) (hdb : (x == ("__debug__" : Str)) = false := by decide)
    (he : starEach (e :: es) X.env = (false, eval e X.env) :: starEach es X.env := by rfl) (hpl : (backTo pos (starEach es X.env)).any (·.1) = false := by rfl) : EX X C Γ (.Call (.Name x p) (e :: es) [] pos) c r J := .mk fun z σ W H Q s hr k => by
  obtain ⟨rr, hc, hf⟩ := o
  exact w_pe (pe_callBfun hc hg hm pa_w hdb he hpl) (CallB.use (f := .builtin id) hf h s hr k)
theorem ef_callB {t : TC X.K α} {c : Cel X.K β} {g : α → Option β} {J : β → En X.K → Option ρ → Prop} (o : CallN X (.builtin id) t c g) (hm : X.mg x = none) (hv : bootBuiltins x = some (.builtin id))
    (h : EA X C Γ (e :: es) t r fun x Γ1 r1 => ∃ k, r1 = g x >>= k ∧ ∀ z, J z Γ1 (k z)) (hg : Gl X x := by rfl) (hn : x ≠ "__name__" := by decide) (hdb : (x == ("__debug__" : Str)) = false := by decide)
    (he : starEach (e :: es) X.env = (false, eval e X.env) :: starEach es X.env := by rfl) (hpl : (backTo pos (starEach es X.env)).any (·.1) = false := by rfl) : EF X C Γ (.Call (.Name x p) (e :: es) [] pos) c r J := .mk fun z σ W H Q s hr k => by
  obtain ⟨rr, hc, hf⟩ := o
  exact w_pe (pe_callB hc hg hm hv pa_w hn hdb he hpl) (CallN.use (f := .builtin id) hf h s hr k)
theorem ef_callT {t : TC X.K α} {c : Cel X.K β} {g : α → Option β} {J : β → En X.K → Option ρ → Prop} (o : CallN X (.type T) t c g) (hm : X.mg x = none) (hv : bootBuiltins x = some (.type T))
    (h : EA X C Γ (e :: es) t r fun x Γ1 r1 => ∃ k, r1 = g x >>= k ∧ ∀ z, J z Γ1 (k z)) (hg : Gl X x := by rfl) (hn : x ≠ "__name__" := by decide) (hdb : (x == ("__debug__" : Str)) = false := by decide)
    (he : starEach (e :: es) X.env = (false, eval e X.env) :: starEach es X.env := by rfl) (hpl : (backTo pos (starEach es X.env)).any (·.1) = false := by rfl) : EF X C Γ (.Call (.Name x p) (e :: es) [] pos) c r J := .mk fun z σ W H Q s hr k => by
  obtain ⟨rr, hc, hf⟩ := o
  exact w_pe (pe_callTy hc hg hm hv pa_w hn hdb he hpl) (CallN.use (f := .type T) hf h s hr k)

def absI (i : Int) : Int := if i < 0 then -i else i
def maxI (i j : Int) : Int := if j > i then j else i
def minI (i j : Int) : Int := if j < i then j else i
theorem b_abs : CallB X (.builtin "abs") (tc1 cInt) cInt fun x => some (absI x) := ⟨_, call_abs, fun W H vs x z Q sb h e k => by
  obtain ⟨v, rfl, h⟩ := h; cases h; cases e; exact ⟨x, rfl, k _ W H (Grow.refl sb) rfl⟩⟩
theorem b_int : CallB X (.type "int") (tc1 cInt) cInt fun x => some x := ⟨_, call_int1, fun W H vs x z Q sb h e k => by
  obtain ⟨v, rfl, h⟩ := h; cases h; cases e; exact .inl ⟨x, rfl, k _ W H (Grow.refl sb) rfl⟩⟩
theorem b_max (hc : X.calm = true) : CallB X (.builtin "max") (tcC cInt (tc1 cInt)) cInt fun x => some (maxI x.1 x.2) := ⟨_, call_max2 hc, fun W H vs x z Q sb h e k => by
  obtain ⟨v, r, rfl, h, v2, rfl, h2⟩ := h; cases h; cases h2; cases e; exact ⟨x.1, x.2, rfl, k _ W H (Grow.refl sb) rfl⟩⟩
theorem b_min (hc : X.calm = true) : CallB X (.builtin "min") (tcC cInt (tc1 cInt)) cInt fun x => some (minI x.1 x.2) := ⟨_, call_min2 hc, fun W H vs x z Q sb h e k => by
  obtain ⟨v, r, rfl, h, v2, rfl, h2⟩ := h; cases h; cases h2; cases e; exact ⟨x.1, x.2, rfl, k _ W H (Grow.refl sb) rfl⟩⟩
theorem b_lenS {c : Cod X.K α} : CallB X (.builtin "len") (tc1 (cSeq c)) cInt fun x => some (x.length : Int) := ⟨_, call_len_seq, fun W H vs x z Q sb h e k => by
  obtain ⟨v, rfl, ad, ws, rfl, h2, h3⟩ := h; cases e; rw [← h3.length] at k; exact ⟨ad, ws, rfl, .inr (Same.tup sb h2), k _ W H (Grow.refl sb) rfl⟩⟩
theorem b_lenL {c : Cod X.K α} : CallB X (.builtin "len") (tc1 (cLst c)) cInt fun x => some (x.length : Int) := ⟨_, call_len_seq, fun W H vs x z Q sb h e k => by
  obtain ⟨v, rfl, ad, ws, rfl, h2, h3⟩ := h; cases e; rw [← h3.length] at k; exact ⟨ad, ws, rfl, .inl (SqL.of (sb _ _ h2)), k _ W H (Grow.refl sb) rfl⟩⟩
def U.len : U → Option Int
  | .tup l => some l.length
  | .lst l => some l.length
  | _ => none
theorem b_lenU : CallB X (.builtin "len") (tc1 cU) cInt U.len := ⟨_, call_len_seq, fun W H vs x z Q sb h e k => by
  obtain ⟨v, rfl, h⟩ := h
  cases x with
  | tup l => obtain ⟨ad, ws, rfl, h2, h3⟩ := h; cases e; rw [← h3.length] at k; exact ⟨ad, ws, rfl, .inr (Same.tup sb h2), k _ W H (Grow.refl sb) rfl⟩
  | lst l => obtain ⟨ad, ws, rfl, h2, h3⟩ := h; cases e; rw [← h3.length] at k; exact ⟨ad, ws, rfl, .inl (SqL.of (sb _ _ h2)), k _ W H (Grow.refl sb) rfl⟩
  | _ => cases e⟩
theorem Row.bls {K : Frag} {H : Hp} : ∀ {vs : List V} {xs : List Bool}, Row (cBool (K := K)) H vs xs → vs = xs.map V.bl
  | _, _, .nil => rfl
  | _, _, .cons h t => by cases h; rw [Row.bls t]; rfl
theorem Row.ints {K : Frag} {H : Hp} : ∀ {vs : List V} {xs : List Int}, Row (cInt (K := K)) H vs xs → vs = xs.map V.int
  | _, _, .nil => rfl
  | _, _, .cons h t => by cases h; rw [Row.ints t]; rfl
theorem Row.strs {K : Frag} {H : Hp} : ∀ {vs : List V} {xs : List Str}, Row (cStr (K := K)) H vs xs → vs = xs.map V.str
  | _, _, .nil => rfl
  | _, _, .cons h t => by cases h; rw [Row.strs t]; rfl
theorem Row.of_ints {K : Frag} {H : Hp} : ∀ (xs : List Int), Row (cInt (K := K)) H (xs.map V.int) xs
  | [] => .nil
  | x :: xs => .cons rfl (Row.of_ints xs)
theorem b_all (hc : X.calm = true) : CallB X (.builtin "all") (tc1 (cLst cBool)) cBool fun x => some (x.all fun b => b) := ⟨_, cr_all hc, fun W H vs x z Q sb h e k => by
  obtain ⟨v, rfl, ad, ws, rfl, h2, h3⟩ := h; cases e; rw [h3.bls] at h2; exact ⟨ad, x, rfl, SqL.of (sb _ _ h2), k _ W H (Grow.refl sb) rfl⟩⟩
theorem b_any (hc : X.calm = true) : CallB X (.builtin "any") (tc1 (cLst cBool)) cBool fun x => some (x.any fun b => b) := ⟨_, cr_any hc, fun W H vs x z Q sb h e k => by
  obtain ⟨v, rfl, ad, ws, rfl, h2, h3⟩ := h; cases e; rw [h3.bls] at h2; exact ⟨ad, x, rfl, SqL.of (sb _ _ h2), k _ W H (Grow.refl sb) rfl⟩⟩
theorem b_sum (hc : X.calm = true) : CallB X (.builtin "sum") (tc1 (cLst cInt)) cInt fun x => some x.sum := ⟨_, cr_sum hc, fun W H vs x z Q sb h e k => by
  obtain ⟨v, rfl, ad, ws, rfl, h2, h3⟩ := h; cases e; rw [h3.ints] at h2; exact ⟨ad, x, rfl, SqL.of (sb _ _ h2), k _ W H (Grow.refl sb) rfl⟩⟩
theorem b_tupL {c : Cod X.K α} : CallB X (.type "tuple") (tc1 (cLst c)) (cSeq c) fun x => some x := ⟨_, call_tuple_of, fun W H vs x z Q sb h e k => by
  obtain ⟨v, rfl, ad, ws, rfl, h2, h3⟩ := h; cases e
  exact ⟨ad, ws, rfl, .inl ⟨SqL.of (sb _ _ h2), fun l hl => k _ _ _ (Grow.new sb hl) ⟨l, ws, rfl, SqT.of upd_same, h3.mono (Grow.new sb hl).w⟩⟩⟩⟩
theorem b_tupS {c : Cod X.K α} : CallB X (.type "tuple") (tc1 (cSeq c)) (cSeq c) fun x => some x := ⟨_, call_tuple_of, fun W H vs x z Q sb h e k => by
  obtain ⟨v, rfl, ad, ws, rfl, h2, h3⟩ := h; cases e
  exact ⟨ad, ws, rfl, .inr ⟨Same.tup sb h2, k _ W H (Grow.refl sb) ⟨ad, ws, rfl, h2, h3⟩⟩⟩⟩
theorem n_listL {c : Cod X.K α} : CallN X (.type "list") (tc1 (cLst c)) (lstC c) fun x => some x := ⟨_, call_list_of, fun W H vs x z Q sb h e k => by
  obtain ⟨v, rfl, ad, ws, rfl, h2, h3⟩ := h; cases e
  exact ⟨ad, ws, rfl, .inl (SqL.of (sb _ _ h2)), fun l hl => k l _ hl ⟨ws, rfl, h3⟩⟩⟩
theorem n_listS {c : Cod X.K α} : CallN X (.type "list") (tc1 (cSeq c)) (lstC c) fun x => some x := ⟨_, call_list_of, fun W H vs x z Q sb h e k => by
  obtain ⟨v, rfl, ad, ws, rfl, h2, h3⟩ := h; cases e
  exact ⟨ad, ws, rfl, .inr (Same.tup sb h2), fun l hl => k l _ hl ⟨ws, rfl, h3⟩⟩⟩
/-- the script: ints, read only -/
def cScr {K : Frag} : Cod K (List Int) := ⟨fun H v x => ∃ a, v = .ref a ∧ SqL K H a (x.map V.int), fun _ => .opq, fun e ⟨a, h, q⟩ => ⟨a, h, Same.seq e q⟩, fun _ => trivial⟩
theorem n_listZ : CallN X (.type "list") (tc1 cScr) (lstC cInt) fun x => some x := ⟨_, call_list_of, fun W H vs x z Q sb h e k => by
  obtain ⟨v, rfl, ad, rfl, h2⟩ := h; cases e
  exact ⟨ad, _, rfl, .inl (Same.seq sb h2), fun l hl => k l _ hl ⟨_, rfl, Row.of_ints x⟩⟩⟩
def gcdI (a b : Int) : Int := ((Nat.gcd a.natAbs b.natAbs : Nat) : Int)
theorem b_gcd : CallB X (.builtin "math.gcd") (tcC cInt (tc1 cInt)) cInt fun x => some (gcdI x.1 x.2) := ⟨_, cr_gcd, fun W H vs x z Q sb h e k => by
  obtain ⟨v, r, rfl, h, v2, rfl, h2⟩ := h; cases h; cases h2; cases e; exact ⟨x.1, x.2, rfl, k _ W H (Grow.refl sb) rfl⟩⟩
def CLcm (a b : Int) : Prop := a.natAbs.log2 < 13000 ∧ b.natAbs.log2 < 13000
instance (a b : Int) : Decidable (CLcm a b) := inferInstanceAs (Decidable (_ ∧ _))
def lcmR (a b : Int) : Option Int := if CLcm a b then some ((Nat.lcm a.natAbs b.natAbs : Nat) : Int) else none
theorem log2_mul_lt {a b : Nat} {n : Nat} (ha : a.log2 < n) (hb : b.log2 < n) : (a * b).log2 < n + n := by
  rcases Nat.eq_zero_or_pos (a * b) with h | h
  · rw [h, Nat.log2_zero]; omega
  · have h1 : a ≠ 0 := fun e => by subst e; simp at h
    have h2 : b ≠ 0 := fun e => by subst e; simp at h
    refine (Nat.log2_lt (by omega)).mpr ?_
    rw [Nat.pow_add]
    exact Nat.mul_lt_mul'' ((Nat.log2_lt h1).mp ha) ((Nat.log2_lt h2).mp hb)
theorem log2_mono {a b : Nat} (h : a ≤ b) : a.log2 ≤ b.log2 := by
  rcases Nat.eq_zero_or_pos a with e | e
  · subst e; rw [Nat.log2_zero]; exact Nat.zero_le _
  · have hb : b ≠ 0 := by omega
    have h1 := (Nat.log2_lt (n := b) (k := b.log2 + 1) hb).mp (Nat.lt_succ_self _)
    exact Nat.le_of_lt_succ ((Nat.log2_lt (by omega)).mpr (Nat.lt_of_le_of_lt h h1))
theorem cr_lcm : CallR X (.builtin "math.lcm") (fun vs H Q => ∃ a b : Int, vs = [.int a, .int b] ∧ CLcm a b ∧ Q (.int ((Nat.lcm a.natAbs b.natAbs : Nat) : Int)) H) := by
  intro pins s σ H vs us Q I r h
  obtain ⟨a, b, rfl, ⟨l1, l2⟩, q⟩ := h
  obtain ⟨t, u, rfl⟩ := Vals.int2 r
  have m1 : (max 1 a.natAbs).log2 < 13000 := by
    rcases Nat.le_total 1 a.natAbs with h | h
    · rw [Nat.max_eq_right h]; exact l1
    · rw [Nat.max_eq_left h]; decide
  have m2 : (max a.natAbs b.natAbs).log2 < 13000 := by
    rcases Nat.le_total a.natAbs b.natAbs with h | h
    · rw [Nat.max_eq_right h]; exact l2
    · rw [Nat.max_eq_left h]; exact l1
  have e1 : (Nat.lcm 1 a.natAbs).lcm b.natAbs = Nat.lcm a.natAbs b.natAbs := by rw [PySem.W.mc_lcm_one]
  have l4 : (((((Nat.lcm 1 a.natAbs).lcm b.natAbs : Nat) : Int)).natAbs).log2 < bitsLine := by
    rw [e1, Int.natAbs_natCast]
    exact Nat.lt_of_le_of_lt (log2_mono (PySem.W.mc_lcm_le _ _)) (Nat.lt_trans (log2_mul_lt l1 l2) (by decide))
  refine call_function_meets PySem.W.MGF.kind_lcm PySem.W.MGF.plain_lcm PySem.W.MGF.entry_lcm (PySem.W.MGF.args_lcm _ _) (PySem.W.mg_run_lcm a t b u (by omega) (by omega) l4).meets ?_
  rw [e1]
  exact ⟨.int _, H, I.tok _, ⟨_, rfl⟩, q⟩
theorem b_lcm : CallB X (.builtin "math.lcm") (tcC cInt (tc1 cInt)) cInt fun x => lcmR x.1 x.2 := ⟨_, cr_lcm, fun W H vs x z Q sb h e k => by
  obtain ⟨v, r, rfl, h, v2, rfl, h2⟩ := h; cases h; cases h2
  have e : lcmR x.1 x.2 = some z := e
  unfold lcmR at e
  split at e
  · rename_i hc
    cases e; exact ⟨x.1, x.2, rfl, hc, k _ W H (Grow.refl sb) rfl⟩
  · cases e⟩
/-- len of what a name owns -/
theorem ex_lenO {c : Cod X.K α} {y : List α} {J : Int → En X.K → Option ρ → Prop} {n : Str} (i : Nat) (hm : X.mg "len" = none) (hJ : J (y.length : Int) Γ r) (hN : X.N[i]? = some n := by rfl) (hΓ : Γ[i]? = some (.ow (lstC c) y) := by rfl)
    (hv : Vis X.env.scope n := by first | exact Or.inl rfl | exact Or.inr (Or.inl rfl) | exact Or.inr (Or.inr rfl)) (hd : (n == ("__debug__" : Str)) = false := by decide) (hcd : (n == ("__classdict__" : Str)) = false := by decide) (hg : Gl X "len" := by rfl)
    (he : starEach [.Name n p2] X.env = (false, eval (.Name n p2) X.env) :: starEach [] X.env := by rfl) : EX X C Γ (.Call (.Name "len" p) [.Name n p2] [] pos) cInt r J := .mk fun z σ W H Q s hr k =>
  w_pe (pe_callB call_len_seq hg hm PySem.boot_len (pa_cons (pe_var hN hv hd hcd) pa_nil) (by decide) (by decide) he rfl) (by
    obtain ⟨ad, o, e1, e4, vs, rfl, rw1⟩ := s.seen hΓ
    refine ⟨_, e1, ad, vs, rfl, .inl (SqL.of e4), ?_⟩
    rw [rw1.length]
    exact k _ Γ r W H _ hJ hr s (Same.refl _) rfl)

/-! isinstance -/
def isU : String → U → Option Bool
  | _, .opq => none
  | "tuple", .tup _ => some true
  | "list", .lst _ => some true
  | "str", .str _ => some true
  | "int", .int _ => some true
  | "int", .bl _ => some true
  | "bool", .bl _ => some true
  | _, _ => some false
def tyU : U → String
  | .non => "NoneType" | .bl _ => "bool" | .int _ => "int" | .str _ => "str" | .tup _ => "tuple" | .lst _ => "list" | .opq => ""
theorem tyx_of {K : Frag} {W H : Hp} (sb : Same W H) {u : U} {v : V} (hn : u ≠ .opq) (h : rpU K W u v) : TyX K H v (.type (tyU u)) := by
  cases u with
  | non => cases h; exact .base .non
  | bl b => cases h; exact .base (.bl b)
  | int i => cases h; exact .base (.int i)
  | str s => cases h; exact .base (.str s)
  | tup l =>
    obtain ⟨a, vs, rfl, h2, _⟩ := h
    rcases Same.tup sb h2 with (h | ⟨o, h⟩) | ⟨o, its, n, hk, hc, _⟩
    · exact .base (.tup h)
    · exact .fTuple h
    · exact .kTuple hk hc
  | lst l =>
    obtain ⟨a, vs, rfl, h2, _⟩ := h
    exact .base (.lst (sb _ _ h2))
  | opq => exact absurd rfl hn
theorem isU_kit {T : String} (hT : T = "tuple" ∨ T = "list" ∨ T = "str" ∨ T = "int" ∨ T = "bool") (u : U) (hn : u ≠ .opq) : kitB (tyU u) T = isU T u := by
  rcases hT with rfl | rfl | rfl | rfl | rfl <;> cases u <;> first | exact absurd rfl hn | rfl | decide +kernel
theorem ex_isi {J : Bool → En X.K → Option ρ → Prop} (hm : X.mg "isinstance" = none) (hm2 : X.mg (T : Str) = none) (hv2 : bootBuiltins (T : Str) = some (.type T)) (h : EX X C Γ a cU r fun x Γ1 r1 => ∃ k, r1 = isU T x >>= k ∧ ∀ z, J z Γ1 (k z))
    (hT : T = "tuple" ∨ T = "list" ∨ T = "str" ∨ T = "int" ∨ T = "bool" := by decide) (hg : Gl X "isinstance" := by rfl) (hg2 : Gl X (T : Str) := by rfl) (hn2 : (T : Str) ≠ "__name__" := by decide) (hd2 : ((T : Str) == ("__debug__" : Str)) = false := by decide)
    (he : starEach [a, .Name (T : Str) p2] X.env = (false, eval a X.env) :: starEach [.Name (T : Str) p2] X.env := by rfl) (he2 : starEach [.Name (T : Str) p2] X.env = (false, eval (.Name (T : Str) p2) X.env) :: starEach [] X.env := by rfl)
    (hpl : (backTo pos (starEach [.Name (T : Str) p2] X.env)).any (·.1) = false := by rfl) : EX X C Γ (.Call (.Name "isinstance" p) [a, .Name (T : Str) p2] [] pos) cBool r J := .mk fun z σ W H Q s hr k =>
  w_pe (pe_callB call_isi hg hm boot_isinstance (pa_cons pe_w (pa_cons (pe_bltn (v := .ty T) hg2 hm2 hv2 rfl hn2 hd2) pa_nil he2) he) (by decide) (by decide) he hpl)
    (h z σ W H _ s hr fun x Γ1 r1 W1 H1 v j1 hr1 s1 w1 q1 => by
      obtain ⟨k2, e2, j2⟩ := j1
      rw [e2] at hr1
      obtain ⟨t, et, ht⟩ := bind_some hr1
      have hn : x ≠ .opq := fun z => by
        subst z
        rcases hT with rfl | rfl | rfl | rfl | rfl <;> cases et
      exact ⟨v, .ty T, _, _, t, rfl, .ty T, tyx_of s1.sub hn q1, kit_ty ((isU_kit hT x hn).trans et), k _ Γ1 _ W1 H1 _ (j2 t) ht s1 w1 rfl⟩)

/-! defs -/
def spP (K : Frag) (t : TC K α) (f : α → Option β) (c : Cod K β) : Sp := fun vs H Q _ => ∃ W x, Same W H ∧ t.rp W vs x ∧ ∃ z, f x = some z ∧ ∀ W' H' v, Grow W H W' H' → c.rp W' v z → Q v H'
/-- a def that hands back a new object -/
def spN (K : Frag) (t : TC K α) (f : α → Option β) (c : Cel K β) : Sp := fun vs H Q _ => ∃ W x, Same W H ∧ t.rp W vs x ∧ ∃ z, f x = some z ∧ ∀ W' H' p o, Grow W H W' H' → W' p = none → H p = none → H' p = some o → c.ct W' o z → Q (.ref p) H'
/-- what stands at a name of the module -/
structure FnP (P : Program) (w : World) (K : Frag) (mg : Str → Option Value) (base : Heap) (x : Str) (k : Nat) (ps : List Str) (sp : Sp) : Prop where
  ex : ∃ f fd, mg x = some (.ref f) ∧ PySem.W.keepIn K (.ref f) = true ∧ Binds K fd ps [] ∧ FnOk P w K mg base CX0 k f fd ps sp
theorem FnP.mono {P : Program} {w : World} {K : Frag} {mg : Str → Option Value} {base : Heap} {x : Str} {k k' : Nat} {ps : List Str} {sp : Sp} (F : FnP P w K mg base x k ps sp) (h : k ≤ k') : FnP P w K mg base x k' ps sp := by
  obtain ⟨f, fd, a, b, c, d⟩ := F.ex
  exact ⟨f, fd, a, b, c, d.mono h⟩
theorem ex_call {t : TC X.K α} {c : Cod X.K β} {f : α → Option β} {J : β → En X.K → Option ρ → Prop} {k : Nat} {ps : List Str} (F : FnP X.prog X.w X.K X.mg X.base x k ps (spP X.K t f c)) (hr : Room k X.A)
    (h : EA X C Γ (e :: es) t r fun x Γ1 r1 => ∃ k, r1 = f x >>= k ∧ ∀ z, J z Γ1 (k z)) (hg : Gl X x := by rfl) (hdb : (x == ("__debug__" : Str)) = false := by decide)
    (he : starEach (e :: es) X.env = (false, eval e X.env) :: starEach es X.env := by rfl) (hpl : (backTo pos (starEach es X.env)).any (·.1) = false := by rfl) : EX X C Γ (.Call (.Name x p) (e :: es) [] pos) c r J := .mk fun z σ W H Q s hrr kk => by
  obtain ⟨fa, fd, h1, h2, h3, h4⟩ := F.ex
  refine w_pe (pe_call h4 hr hg h1 h2 h3 .nil pass0 pa_w hdb he hpl) (h z σ W H _ s hrr fun y Γ1 r1 W1 H1 vs j1 hr1 s1 w1 q1 => ?_)
  obtain ⟨k2, e2, j2⟩ := j1
  rw [e2] at hr1
  obtain ⟨t2, et, ht⟩ := bind_some hr1
  rw [List.append_nil]
  exact ⟨W1, y, s1.sub, q1, t2, et, fun W2 H2 v G q2 => kk t2 Γ1 _ W2 H2 v (j2 t2) ht (s1.grow G) (w1.trans G.w) q2⟩
theorem ef_call {t : TC X.K α} {c : Cel X.K β} {f : α → Option β} {J : β → En X.K → Option ρ → Prop} {k : Nat} {ps : List Str} (F : FnP X.prog X.w X.K X.mg X.base x k ps (spN X.K t f c)) (hr : Room k X.A)
    (h : EA X C Γ (e :: es) t r fun x Γ1 r1 => ∃ k, r1 = f x >>= k ∧ ∀ z, J z Γ1 (k z)) (hg : Gl X x := by rfl) (hdb : (x == ("__debug__" : Str)) = false := by decide)
    (he : starEach (e :: es) X.env = (false, eval e X.env) :: starEach es X.env := by rfl) (hpl : (backTo pos (starEach es X.env)).any (·.1) = false := by rfl) : EF X C Γ (.Call (.Name x p) (e :: es) [] pos) c r J := .mk fun z σ W H Q s hrr kk => by
  obtain ⟨fa, fd, h1, h2, h3, h4⟩ := F.ex
  refine w_pe (pe_call h4 hr hg h1 h2 h3 .nil pass0 pa_w hdb he hpl) (h z σ W H _ s hrr fun y Γ1 r1 W1 H1 vs j1 hr1 s1 w1 q1 => ?_)
  obtain ⟨k2, e2, j2⟩ := j1
  rw [e2] at hr1
  obtain ⟨t2, et, ht⟩ := bind_some hr1
  rw [List.append_nil]
  refine ⟨W1, y, s1.sub, q1, t2, et, fun W2 H2 p o G wp hp h2p ct => ?_⟩
  have cp : C.H p = none := by
    cases q : C.H p with
    | none => rfl
    | some u => exact absurd hp (s1.li p (by rw [q]; simp))
  exact kk t2 Γ1 _ W2 H2 p o (j2 t2) ht (s1.grow G) (w1.trans G.w) wp cp h2p ct (s1.apart hp) fun z => s1.lb p (.inr z) hp
end
end Ty

set_option maxHeartbeats 4000000
namespace Ty
open PySem PySem.Spec PyProof.Rows L2

/-! ### blocks -/
/-- where a block may go: on, back (a value), out of a loop, to its next turn -/
structure Go (K : Frag) (ρ β : Type) where
  R : Hp → Hp → V → ρ → Prop
  ret : ρ → β
  nx : En K → Option β → Prop
  bk : En K → Option β → Prop := fun _ _ => False
  ct : En K → Option β → Prop := fun _ _ => False
section
variable (X : Cx) (C : Ct) {ρ β : Type}
/-- the piece w (a statement, a block) from Γ with the rest r to go -/
structure GK (w : TS) (Γ : En X.K) (r : Option β) (T : Go X.K ρ β) : Prop where
  run : ∀ (z : β) σ W H (D : Ends), Sat C Γ σ W H → r = some z →
    (∀ Γ' r' σ' W' H', T.nx Γ' r' → r' = some z → Sat C Γ' σ' W' H' → Same W W' → D.nx σ' H') →
    (∀ Γ' r' σ' W' H', T.bk Γ' r' → r' = some z → Sat C Γ' σ' W' H' → Same W W' → D.bk σ' H') →
    (∀ Γ' r' σ' W' H', T.ct Γ' r' → r' = some z → Sat C Γ' σ' W' H' → Same W W' → D.ct σ' H') →
    (∀ x v (Γ' : En X.K) σ' W' H', T.ret x = z → Sat C Γ' σ' W' H' → Same W W' → T.R W' H' v x → D.rt v H') → w D σ H
end
instance {X : Cx} {C : Ct} {ρ β : Type} {w : TS} {Γ : En X.K} {r : Option β} {T : Go X.K ρ β} : CoeFun (GK X C w Γ r T) (fun _ => ∀ (z : β) σ W H (D : Ends), Sat C Γ σ W H → r = some z →
    (∀ Γ' r' σ' W' H', T.nx Γ' r' → r' = some z → Sat C Γ' σ' W' H' → Same W W' → D.nx σ' H') →
    (∀ Γ' r' σ' W' H', T.bk Γ' r' → r' = some z → Sat C Γ' σ' W' H' → Same W W' → D.bk σ' H') →
    (∀ Γ' r' σ' W' H', T.ct Γ' r' → r' = some z → Sat C Γ' σ' W' H' → Same W W' → D.ct σ' H') →
    (∀ x v (Γ' : En X.K) σ' W' H', T.ret x = z → Sat C Γ' σ' W' H' → Same W W' → T.R W' H' v x → D.rt v H') → w D σ H) := ⟨GK.run⟩
section
variable {X : Cx} {C : Ct} {ρ α β γ : Type} {Γ : En X.K} {e a b : Expr} {es : List Expr} {st : Stmt} {sts rest : List Stmt} {r : Option β} {T : Go X.K ρ β} {pos p p2 p3 : Pos}
theorem gk_nil (h : T.nx Γ r) : GK X C (wpB X []) Γ r T := GK.mk fun z σ W H D s hr kn kb kc kr => w_pss pss_nil (kn Γ r σ W H h hr s (Same.refl _))
theorem gk_cons (h : GK X C (wpS X st) Γ r { T with nx := fun Γ1 r1 => GK X C (wpB X rest) Γ1 r1 T }) : GK X C (wpB X (st :: rest)) Γ r T := GK.mk fun z σ W H D s hr kn kb kc kr =>
  w_pss (pss_cons ps_w pss_w) (h z σ W H { D with nx := wpB X rest D } s hr (fun Γ1 r1 σ1 W1 H1 g hr1 s1 w1 => g z σ1 W1 H1 D s1 hr1
    (fun Γ' r' σ' W' H' a b c d => kn Γ' r' σ' W' H' a b c (w1.trans d)) (fun Γ' r' σ' W' H' a b c d => kb Γ' r' σ' W' H' a b c (w1.trans d)) (fun Γ' r' σ' W' H' a b c d => kc Γ' r' σ' W' H' a b c (w1.trans d))
    (fun x v Γ' σ' W' H' a b c d => kr x v Γ' σ' W' H' a b (w1.trans c) d)) kb kc kr)
theorem gk_one (h : GK X C (wpS X st) Γ r T) : GK X C (wpB X [st]) Γ r T := GK.mk fun z σ W H D s hr kn kb kc kr => w_pss (pss_one ps_w) (h z σ W H D s hr kn kb kc kr)
theorem gk_wk {w : TS} {Γ' : En X.K} (g : Wk C Γ Γ') (h : GK X C w Γ' r T) : GK X C w Γ r T := GK.mk fun z σ W H D s hr kn kb kc kr => by
  obtain ⟨W1, w1, s1⟩ := g σ W H s
  exact h z σ W1 H D s1 hr (fun Γ' r' σ' W' H' a b c d => kn Γ' r' σ' W' H' a b c (w1.trans d)) (fun Γ' r' σ' W' H' a b c d => kb Γ' r' σ' W' H' a b c (w1.trans d)) (fun Γ' r' σ' W' H' a b c d => kc Γ' r' σ' W' H' a b c (w1.trans d))
    (fun x v Γ' σ' W' H' a b c d => kr x v Γ' σ' W' H' a b (w1.trans c) d)
theorem gs_pass (h : T.nx Γ r) : GK X C (wpS X (.Pass pos)) Γ r T := GK.mk fun z σ W H D s hr kn kb kc kr => w_ps ps_pass (kn Γ r σ W H h hr s (Same.refl _))
theorem gs_break (h : T.bk Γ r) : GK X C (wpS X (.Break pos)) Γ r T := GK.mk fun z σ W H D s hr kn kb kc kr => w_ps ps_break (kb Γ r σ W H h hr s (Same.refl _))
theorem gs_continue (h : T.ct Γ r) : GK X C (wpS X (.Continue pos)) Γ r T := GK.mk fun z σ W H D s hr kn kb kc kr => w_ps ps_continue (kc Γ r σ W H h hr s (Same.refl _))
theorem gs_ret {c : Cod X.K ρ} (h : EX X C Γ e c r fun x _ r1 => r1 = some (T.ret x)) (hR : T.R = fun W _ v x => c.rp W v x := by rfl) : GK X C (wpS X (.Return (some e) pos)) Γ r T := GK.mk fun z σ W H D s hr kn kb kc kr =>
  w_ps (ps_ret pe_w) (h z σ W H _ s hr fun x Γ1 r1 W1 H1 v j1 hr1 s1 w1 q1 => kr x v Γ1 σ W1 H1 (by rw [j1] at hr1; exact Option.some.inj hr1) s1 w1 (by rw [hR]; exact q1))
/-- a new object that belongs to the caller -/
def NewR {K : Frag} (C : Ct) (c : Cel K ρ) : Hp → Hp → V → ρ → Prop := fun W H v x => ∃ p o, v = .ref p ∧ W p = none ∧ C.H p = none ∧ H p = some o ∧ c.ct W o x
theorem gs_retN {c : Cel X.K ρ} (h : EF X C Γ e c r fun x _ r1 => r1 = some (T.ret x)) (hR : T.R = NewR C c := by rfl) : GK X C (wpS X (.Return (some e) pos)) Γ r T := GK.mk fun z σ W H D s hr kn kb kc kr =>
  w_ps (ps_ret pe_w) (h z σ W H _ s hr fun x Γ1 r1 W1 H1 p o j1 hr1 s1 w1 wp cp hp ct ap la => kr x _ Γ1 σ W1 H1 (by rw [j1] at hr1; exact Option.some.inj hr1) s1 w1 (by rw [hR]; exact ⟨p, o, rfl, wp, cp, hp, ct⟩))
/-- return x, x a name that owns its object -/
theorem gs_retO {c : Cel X.K ρ} {x : ρ} {n : Str} (i : Nat) (hr0 : r = some (T.ret x)) (hR : T.R = NewR C c := by rfl) (hB : ∀ a, ¬ C.B a := by intro _ h; exact h) (hN : X.N[i]? = some n := by rfl) (hΓ : Γ[i]? = some (.ow c x) := by rfl)
    (hv : Vis X.env.scope n := by first | exact Or.inl rfl | exact Or.inr (Or.inl rfl) | exact Or.inr (Or.inr rfl)) (hd : (n == ("__debug__" : Str)) = false := by decide) (hcd : (n == ("__classdict__" : Str)) = false := by decide) :
    GK X C (wpS X (.Return (some (.Name n p)) pos)) Γ r T := GK.mk fun z σ W H D s hr kn kb kc kr =>
  w_ps (ps_ret (pe_var hN hv hd hcd)) (by
    obtain ⟨ad, o, e1, e2, e3, e4, e5⟩ := s.sl i _ hΓ
    exact ⟨_, getD_some e1, kr x _ Γ σ W H (by rw [hr0] at hr; exact Option.some.inj hr) s (Same.refl _) (by rw [hR]; exact ⟨ad, o, rfl, e2, e3.resolve_right (hB ad), e4, e5⟩)⟩)
/-- the scope's slot of a local name -/
theorem set_len {σ : L2.St} {n : Nat} {i : Nat} {x : Str} {N : List Str} (h : σ.length = N.length) (hi : N[i]? = some x) : i < σ.length := by
  rw [h]; exact (List.getElem?_eq_some_iff.mp hi).1
theorem gs_set {c : Cod X.K α} {n : Str} (i : Nat) (h : EX X C Γ e c r fun x Γ1 r1 => T.nx (Γ1.set i (.im c x)) r1) (hnd : X.N.Nodup) (hN : X.N[i]? = some n := by rfl)
    (hx : Loc X.env.scope n := by first | exact Or.inl rfl | exact Or.inr rfl) (hs : swapsWith e (some (.Name n p)) pos.line X.env = pure false := by rfl) (hf : X.fn n = true ∨ X.env.scope.names.lookup n = some .local := by first | exact .inl rfl | exact .inr rfl) :
    GK X C (wpS X (.Assign [.Name n p] e pos)) Γ r T := GK.mk fun z σ W H D s hr kn kb kc kr => fun pins sh I => by
  have hl : i < σ.length := set_len (n := 0) I.len hN
  exact (ps_set hnd hN hx pe_w hs hf).run pins sh σ H D I (h z σ W H _ s hr fun x Γ1 r1 W1 H1 v j1 hr1 s1 w1 q1 => kn _ r1 _ W1 H1 j1 hr1 (s1.put hl q1) w1)
/-- .. and the value is a letter from now on -/
def lt {δ : Type} (x : α) (k : α → δ) : δ := k x
theorem gs_let {c : Cod X.K α} {n : Str} (i : Nat) (h : EX X C Γ e c r fun x Γ1 r1 => ∃ k, r1 = lt x k ∧ ∀ y, T.nx (Γ1.set i (.im c y)) (k y)) (hnd : X.N.Nodup) (hN : X.N[i]? = some n := by rfl)
    (hx : Loc X.env.scope n := by first | exact Or.inl rfl | exact Or.inr rfl) (hs : swapsWith e (some (.Name n p)) pos.line X.env = pure false := by rfl) (hf : X.fn n = true ∨ X.env.scope.names.lookup n = some .local := by first | exact .inl rfl | exact .inr rfl) :
    GK X C (wpS X (.Assign [.Name n p] e pos)) Γ r T := GK.mk fun z σ W H D s hr kn kb kc kr => fun pins sh I => by
  have hl : i < σ.length := set_len (n := 0) I.len hN
  exact (ps_set hnd hN hx pe_w hs hf).run pins sh σ H D I (h z σ W H _ s hr fun x Γ1 r1 W1 H1 v j1 hr1 s1 w1 q1 => by
    obtain ⟨k, e1, j1⟩ := j1
    rw [e1] at hr1
    exact kn _ _ _ W1 H1 (j1 x) hr1 (s1.put hl q1) w1)
/-- a name is given a new object -/
theorem gs_setN {c : Cel X.K α} {n : Str} (i : Nat) (h : EF X C Γ e c r fun x Γ1 r1 => T.nx (Γ1.set i (.ow c x)) r1) (hnd : X.N.Nodup) (hN : X.N[i]? = some n := by rfl)
    (hx : Loc X.env.scope n := by first | exact Or.inl rfl | exact Or.inr rfl) (hs : swapsWith e (some (.Name n p)) pos.line X.env = pure false := by rfl) (hf : X.fn n = true ∨ X.env.scope.names.lookup n = some .local := by first | exact .inl rfl | exact .inr rfl) :
    GK X C (wpS X (.Assign [.Name n p] e pos)) Γ r T := GK.mk fun z σ W H D s hr kn kb kc kr => fun pins sh I => by
  have hl : i < σ.length := set_len (n := 0) I.len hN
  exact (ps_set hnd hN hx pe_w hs hf).run pins sh σ H D I (h z σ W H _ s hr fun x Γ1 r1 W1 H1 p o j1 hr1 s1 w1 wp cp hp ct ap la => kn _ r1 _ W1 H1 j1 hr1 (s1.take hl wp (.inl cp) hp ct ap la) w1)
theorem gs_expr {c : Cod X.K α} (h : EX X C Γ e c r fun _ Γ1 r1 => T.nx Γ1 r1) (hs : swapsWith e none pos.line X.env = pure false := by rfl) : GK X C (wpS X (.Expr e pos)) Γ r T := GK.mk fun z σ W H D s hr kn kb kc kr =>
  w_ps (ps_expr pe_w hs) (h z σ W H _ s hr fun x Γ1 r1 W1 H1 v j1 hr1 s1 w1 q1 => kn Γ1 r1 σ W1 H1 j1 hr1 s1 w1)
/-- if t: a block that does not go on -/
theorem gs_ifR (h : ET X C Γ e r fun x Γ1 r1 => ∃ ra rb, r1 = cond x ra rb ∧ GK X C (wpB X sts) Γ1 ra { T with nx := fun _ _ => False } ∧ T.nx Γ1 rb) : GK X C (wpS X (.If e sts [] pos)) Γ r T := GK.mk fun z σ W H D s hr kn kb kc kr =>
  w_ps (ps_if pt_w pss_w pss_nil) (h z σ W H _ s hr fun x Γ1 r1 W1 H1 j1 hr1 s1 w1 => by
    obtain ⟨ra, rb, e1, ga, gb⟩ := j1
    rw [e1] at hr1
    cases x with
    | true =>
      rw [if_pos rfl]
      exact ga z σ W1 H1 _ s1 hr1 (fun _ _ _ _ _ f => f.elim) (fun Γ' r' σ' W' H' a b c d => kb Γ' r' σ' W' H' a b c (w1.trans d)) (fun Γ' r' σ' W' H' a b c d => kc Γ' r' σ' W' H' a b c (w1.trans d)) (fun x v Γ' σ' W' H' a b c d => kr x v Γ' σ' W' H' a b (w1.trans c) d)
    | false =>
      rw [if_neg Bool.false_ne_true]
      exact kn Γ1 rb σ W1 H1 gb hr1 s1 w1)
/-- if t: .. else: .., both as they stand -/
theorem gs_if2 {sts2 : List Stmt} (h : ET X C Γ e r fun x Γ1 r1 => ∃ ra rb, r1 = cond x ra rb ∧ GK X C (wpB X sts) Γ1 ra T ∧ GK X C (wpB X sts2) Γ1 rb T) : GK X C (wpS X (.If e sts sts2 pos)) Γ r T := GK.mk fun z σ W H D s hr kn kb kc kr =>
  w_ps (ps_if pt_w pss_w pss_w) (h z σ W H _ s hr fun x Γ1 r1 W1 H1 j1 hr1 s1 w1 => by
    obtain ⟨ra, rb, e1, ga, gb⟩ := j1
    rw [e1] at hr1
    cases x with
    | true =>
      rw [if_pos rfl]
      exact ga z σ W1 H1 _ s1 hr1 (fun Γ' r' σ' W' H' a b c d => kn Γ' r' σ' W' H' a b c (w1.trans d)) (fun Γ' r' σ' W' H' a b c d => kb Γ' r' σ' W' H' a b c (w1.trans d)) (fun Γ' r' σ' W' H' a b c d => kc Γ' r' σ' W' H' a b c (w1.trans d)) (fun x v Γ' σ' W' H' a b c d => kr x v Γ' σ' W' H' a b (w1.trans c) d)
    | false =>
      rw [if_neg Bool.false_ne_true]
      exact gb z σ W1 H1 _ s1 hr1 (fun Γ' r' σ' W' H' a b c d => kn Γ' r' σ' W' H' a b c (w1.trans d)) (fun Γ' r' σ' W' H' a b c d => kb Γ' r' σ' W' H' a b c (w1.trans d)) (fun Γ' r' σ' W' H' a b c d => kc Γ' r' σ' W' H' a b c (w1.trans d)) (fun x v Γ' σ' W' H' a b c d => kr x v Γ' σ' W' H' a b (w1.trans c) d))
/-- how a part of a block ends: on with a state, back, out, again -/
inductive Fl (S ρ : Type) where
  | nx (s : S) | rt (x : ρ) | bk (s : S) | ct (s : S)
/-- a part's going, told by its end -/
def goF {K : Frag} {S : Type} (C : Ct) (R : Hp → Hp → V → ρ → Prop) (Γs : S → En K) : Go K ρ (Fl S ρ) where
  R := R
  ret := .rt
  nx := fun Γ' r' => ∃ s, r' = some (.nx s) ∧ Wk C Γ' (Γs s)
  bk := fun Γ' r' => ∃ s, r' = some (.bk s) ∧ Wk C Γ' (Γs s)
  ct := fun Γ' r' => ∃ s, r' = some (.ct s) ∧ Wk C Γ' (Γs s)
/-- .. that only goes on -/
def goS {K : Frag} {S : Type} (C : Ct) (Γs : S → En K) : Go K Empty S where
  R := fun _ _ _ _ => False
  ret := Empty.elim
  nx := fun Γ' r' => ∃ s, r' = some s ∧ Wk C Γ' (Γs s)
theorem goes {K : Frag} {S : Type} {C : Ct} {Γ' : En K} {Γs : S → En K} {s : S} (w : Wk C Γ' (Γs s)) : (goS C Γs).nx Γ' (some s) := ⟨s, rfl, w⟩
/-- a part of a block, joined by a state -/
theorem gk_join {S : Type} {w : TS} {m : Option S} {k : S → Option β} (Γs : S → En X.K) (hr0 : r = m >>= k) (hw : GK X C w Γ m (goS C Γs)) (h : ∀ s, T.nx (Γs s) (k s)) : GK X C w Γ r T := GK.mk fun z σ W H D s hr kn kb kc kr => by
  rw [hr0] at hr
  obtain ⟨t, e1, e2⟩ := bind_some hr
  refine hw t σ W H D s e1 (fun Γ1 r1 σ1 W1 H1 j hr1 s1 w1 => ?_) (fun _ _ _ _ _ f => f.elim) (fun _ _ _ _ _ f => f.elim) fun x => x.elim
  obtain ⟨t', e3, g⟩ := j
  rw [hr1] at e3; cases e3
  obtain ⟨W2, w2, s2⟩ := g σ1 W1 H1 s1
  exact kn _ _ σ1 W2 H1 (h t) e2 s2 (w1.trans w2)
/-- .. that may also go back, out, again -/
theorem gk_joinF {S : Type} {w : TS} {m : Option (Fl S ρ)} {k : Fl S ρ → Option β} (Γs : S → En X.K) (hr0 : r = m >>= k) (hw : GK X C w Γ m (goF C T.R Γs)) (h : ∀ s, T.nx (Γs s) (k (.nx s))) (hret : ∀ x, k (.rt x) = some (T.ret x))
    (hbk : ∀ s z, k (.bk s) = some z → T.bk (Γs s) (k (.bk s)) := by intro _ _ h; cases h) (hct : ∀ s z, k (.ct s) = some z → T.ct (Γs s) (k (.ct s)) := by intro _ _ h; cases h) : GK X C w Γ r T := GK.mk fun z σ W H D s hr kn kb kc kr => by
  rw [hr0] at hr
  obtain ⟨t, e1, e2⟩ := bind_some hr
  refine hw t σ W H D s e1 (fun Γ1 r1 σ1 W1 H1 j hr1 s1 w1 => ?_) (fun Γ1 r1 σ1 W1 H1 j hr1 s1 w1 => ?_) (fun Γ1 r1 σ1 W1 H1 j hr1 s1 w1 => ?_) fun x v Γ1 σ1 W1 H1 e s1 w1 q => ?_
  · obtain ⟨t', e3, g⟩ := j
    rw [hr1] at e3; cases e3
    obtain ⟨W2, w2, s2⟩ := g σ1 W1 H1 s1
    exact kn _ _ σ1 W2 H1 (h t') e2 s2 (w1.trans w2)
  · obtain ⟨t', e3, g⟩ := j
    rw [hr1] at e3; cases e3
    obtain ⟨W2, w2, s2⟩ := g σ1 W1 H1 s1
    exact kb _ _ σ1 W2 H1 (hbk t' z e2) e2 s2 (w1.trans w2)
  · obtain ⟨t', e3, g⟩ := j
    rw [hr1] at e3; cases e3
    obtain ⟨W2, w2, s2⟩ := g σ1 W1 H1 s1
    exact kc _ _ σ1 W2 H1 (hct t' z e2) e2 s2 (w1.trans w2)
  · have e : Fl.rt x = t := e
    subst e
    rw [hret x] at e2
    exact kr x v Γ1 σ1 W1 H1 (Option.some.inj e2) s1 w1 q

/-! targets -/
/-- σ' is σ but at the places ws -/
structure Agr (ws : List Nat) (σ σ' : L2.St) : Prop where
  len : σ'.length = σ.length
  eq : ∀ i, i ∉ ws → σ'[i]? = σ[i]?
theorem Agr.wipe {ws vs : List Nat} {σ σ' : L2.St} (h : Agr ws σ σ') (hs : ∀ i ∈ ws, i ∈ vs) : L2.wipe σ' vs = L2.wipe σ vs := by
  apply List.ext_getElem?
  intro i
  by_cases hi : i ∈ vs
  · have one : ∀ (τ : L2.St) (vs : List Nat), i ∈ vs → (L2.wipe τ vs)[i]? = if i < τ.length then some none else none := by
      intro τ vs
      induction vs with
      | nil => intro h; cases h
      | cons v vs ih =>
        intro hm
        show ((L2.wipe τ vs).set v none)[i]? = _
        by_cases hv : i = v
        · subst hv
          rw [List.getElem?_set]
          simp [wipe_length]
        · rw [List.getElem?_set_ne (Ne.symm hv)]
          exact ih ((List.mem_cons.mp hm).resolve_left hv)
    rw [one σ' vs hi, one σ vs hi, h.len]
  · rw [wipe_get hi, wipe_get hi]
    exact h.eq i fun z => hi (hs i z)
theorem drops_set {K : Frag} {e : Ent K} : ∀ {vs : List Nat} {Γ : En K} {i : Nat}, i ∈ vs → drops0 vs (Γ.set i e) = drops0 vs Γ
  | v :: vs, Γ, i, h => by
    show drops0 vs ((Γ.set i e).set v .no) = drops0 vs (Γ.set v .no)
    by_cases hi : i = v
    · subst hi; rw [List.set_set]
    · rw [List.set_comm _ _ hi]
      exact drops_set ((List.mem_cons.mp h).resolve_left hi)
theorem drops_idem {K : Frag} : ∀ (vs : List Nat) (us : List Nat) (Γ : En K), (∀ i ∈ us, i ∈ vs) → drops0 vs (drops0 us Γ) = drops0 vs Γ
  | _, [], _, _ => rfl
  | vs, u :: us, Γ, h => by
    show drops0 vs (drops0 us (Γ.set u .no)) = _
    rw [drops_idem vs us _ fun i hi => h i (List.mem_cons_of_mem _ hi)]
    exact drops_set (h u (List.mem_cons_self ..))
structure AG (X : Cx) (C : Ct) (tg : Expr) (c : Cod X.K α) (ws : List Nat) (up : En X.K → α → En X.K) : Prop where
  run : ∀ Γ σ W H v x (Q : L2.St → Hp → Prop), Sat C Γ σ W H → c.rp W v x → (∀ σ', Sat C (up Γ x) σ' W H → Agr ws σ σ' → Q σ' H) → wpg X tg v σ H Q
  dr : ∀ Γ x vs, (∀ i ∈ ws, i ∈ vs) → drops0 vs (up Γ x) = drops0 vs Γ
theorem ag_name {c : Cod X.K α} {n : Str} (i : Nat) (hnd : X.N.Nodup) (hN : X.N[i]? = some n := by rfl) (hx : Loc X.env.scope n := by first | exact Or.inl rfl | exact Or.inr rfl) (hf : X.fn n = true ∨ X.env.scope.names.lookup n = some .local := by first | exact .inl rfl | exact .inr rfl) :
    AG X C (.Name n p) c [i] fun Γ x => Γ.set i (.im c x) := ⟨fun Γ σ W H v x Q s q k pins sh u I rv => by
  have hl : i < σ.length := set_len (n := 0) I.len hN
  exact (pg_name hnd hN hx hf).run pins sh σ H v u Q I rv (k _ (s.put hl q) ⟨by simp, fun j hj => by
    simp only [List.mem_cons, List.not_mem_nil, or_false] at hj
    exact List.getElem?_set_ne (Ne.symm hj)⟩), fun Γ x vs h => drops_set (h i (List.mem_cons_self ..))⟩
structure AGs (X : Cx) (C : Ct) (tgs : List Expr) (t : TC X.K α) (ws : List Nat) (up : En X.K → α → En X.K) : Prop where
  run : ∀ Γ σ W H vs x (Q : L2.St → Hp → Prop), Sat C Γ σ W H → t.rp W vs x → (∀ σ', Sat C (up Γ x) σ' W H → Agr ws σ σ' → Q σ' H) →
    ∀ pins s us, Inv X pins σ H s → Vals vs us → wpAny (model X.prog X.w) X.A (assignInOrder ((assignEach tgs X.env).map (·.2)) us) (fun _ s' => ∃ σ' H', Inv X pins σ' H' s' ∧ Q σ' H') X.xe s
  dr : ∀ Γ x vs, (∀ i ∈ ws, i ∈ vs) → drops0 vs (up Γ x) = drops0 vs Γ
theorem ags_cons {tg : Expr} {tgs : List Expr} {c : Cod X.K α} {t : TC X.K β} {ws ws2 : List Nat} {up : En X.K → α → En X.K} {ups : En X.K → β → En X.K} (h : AG X C tg c ws up) (hr : AGs X C tgs t ws2 ups)
    (hs : (assignEach (tg :: tgs) X.env).map (·.2) = assign tg X.env :: (assignEach tgs X.env).map (·.2) := by rfl) : AGs X C (tg :: tgs) (tcC c t) (ws ++ ws2) fun Γ x => ups (up Γ x.1) x.2 := ⟨fun Γ σ W H vs x Q s q k pins sh us I rv => by
  obtain ⟨v, vr, rfl, q1, q2⟩ := q
  cases rv with
  | cons r rr =>
    rw [hs]
    refine assignInOrder_cons (thn (h.run Γ σ W H v x.1 (fun σ' H' => H' = H ∧ Sat C (up Γ x.1) σ' W H ∧ Agr ws σ σ') s q1 (fun σ' s' ag => ⟨rfl, s', ag⟩) pins sh _ I r) fun _ s1 ⟨σ1, H1, I1, eH, s1', ag⟩ => ?_)
    subst eH
    exact hr.run (up Γ x.1) σ1 W H1 vr x.2 Q s1' q2 (fun σ2 s2 ag2 => k σ2 s2 ⟨ag2.len.trans ag.len, fun i hi => by
      simp only [List.mem_append, not_or] at hi
      exact (ag2.eq i hi.2).trans (ag.eq i hi.1)⟩) pins s1 _ I1 rr, fun Γ x vs hh => by
    rw [hr.dr _ _ _ fun i hi => hh i (List.mem_append_right _ hi)]
    exact h.dr _ _ _ fun i hi => hh i (List.mem_append_left _ hi)⟩
theorem ags_one {tg : Expr} {c : Cod X.K α} {ws : List Nat} {up : En X.K → α → En X.K} (h : AG X C tg c ws up)
    (hs : (assignEach [tg] X.env).map (·.2) = assign tg X.env :: (assignEach [] X.env).map (·.2) := by rfl) : AGs X C [tg] (tc1 c) ws up := ⟨fun Γ σ W H vs x Q s q k pins sh us I rv => by
  obtain ⟨v, rfl, q1⟩ := q
  cases rv with
  | cons r rr =>
    rw [hs]
    refine assignInOrder_cons (thn (h.run Γ σ W H v x (fun σ' H' => H' = H ∧ Sat C (up Γ x) σ' W H ∧ Agr ws σ σ') s q1 (fun σ' s' ag => ⟨rfl, s', ag⟩) pins sh _ I r) fun _ s1 ⟨σ1, H1, I1, eH, s1', ag⟩ => ?_)
    subst eH
    exact pgs_nil.run pins s1 σ1 H1 [] _ Q I1 rr ⟨rfl, k σ1 s1' ag⟩, h.dr⟩
theorem ag_tup {t : TC X.K α} {ws : List Nat} {up : En X.K → α → En X.K} {k} (hc : X.calm = true) (h : AGs X C es t ws up) (hn : (assignEach es X.env).length = t.n := by rfl) (hst : (assignEach es X.env).findIdx? (·.1) = none := by rfl) :
    AG X C (.Tuple es k pos) (cTup t) ws up := ⟨fun Γ σ W H v x Q s q kk pins sh u I rv => by
  obtain ⟨ad, vs, rfl, h2, h3⟩ := q
  have pg : PGs X es (fun us σ' H' Q' => us = vs ∧ σ' = σ ∧ H' = H ∧ Q' = Q) := ⟨fun pins s1 σ1 H1 vs1 us1 Q1 I1 r1 ⟨e1, e2, e3, e4⟩ => by
    subst e1 e2 e3 e4
    exact h.run Γ _ W _ _ x _ s h3 kk pins s1 us1 I1 r1⟩
  exact (pg_tup hc pg hn hst).run pins sh σ H (.ref ad) u Q I rv ⟨ad, vs, rfl, Same.tup s.sub h2, t.len h3, rfl, rfl, rfl, rfl⟩, h.dr⟩
/-- (a, b, ..) = e, for .. in e: by a target -/
theorem gs_asg {c : Cod X.K α} {tg : Expr} {ws : List Nat} {up : En X.K → α → En X.K} (hg : AG X C tg c ws up) (h : EX X C Γ e c r fun x Γ1 r1 => T.nx (up Γ1 x) r1) (hs : swapsWithSole [tg] e pos.line X.env = pure false := by rfl) (hw : swappedStores [tg] e X.env = pure none := by rfl)
    (h1 : (assignEach [tg] X.env).map (·.2) = [assign tg X.env] := by rfl) : GK X C (wpS X (.Assign [tg] e pos)) Γ r T := GK.mk fun z σ W H D s hr kn kb kc kr =>
  w_ps (ps_asg pe_w pg_w hs hw h1) (h z σ W H _ s hr fun x Γ1 r1 W1 H1 v j1 hr1 s1 w1 q1 => hg.run Γ1 σ W1 H1 v x _ s1 q1 fun σ' s' _ => kn _ r1 σ' W1 H1 j1 hr1 s' w1)
/-- a, b = e1, e2 with local names -/
theorem gs_par {c1 : Cod X.K α} {c2 : Cod X.K γ} {x y : Str} {px py pt : Pos} {kt k2 pt2} (i j : Nat) (hc : X.calm = true) (hnd : X.N.Nodup)
    (h : EA X C Γ [a, b] (tcC c1 (tc1 c2)) r fun v Γ1 r1 => T.nx ((Γ1.set i (.im c1 v.1)).set j (.im c2 v.2)) r1) (hi : X.N[i]? = some x := by rfl) (hj : X.N[j]? = some y := by rfl) (hij : i ≠ j := by decide)
    (hx : X.env.scope.names.lookup x = some .local := by rfl) (hy : X.env.scope.names.lookup y = some .local := by rfl)
    (hw : swappedStores [.Tuple [.Name x px, .Name y py] kt pt] (.Tuple [a, b] k2 pt2) X.env = pure (some [x, y]) := by rfl)
    (hs : swapsWithSole [.Tuple [.Name x px, .Name y py] kt pt] (.Tuple [a, b] k2 pt2) pos.line X.env = pure false := by rfl) : GK X C (wpS X (.Assign [.Tuple [.Name x px, .Name y py] kt pt] (.Tuple [a, b] k2 pt2) pos)) Γ r T := GK.mk fun z σ W H D s hr kn kb kc kr pins sh I => by
  have hl : i < σ.length := set_len (n := 0) I.len hi
  have hl2 : j < σ.length := set_len (n := 0) I.len hj
  exact (ps_par hc hnd hi hj hij hx hy pa_w hw hs).run pins sh σ H D I (h z σ W H _ s hr fun v Γ1 r1 W1 H1 vs j1 hr1 s1 w1 q1 => by
    obtain ⟨v1, r, rfl, q2, v2, rfl, q3⟩ := q1
    exact ⟨v1, v2, rfl, kn _ r1 _ W1 H1 j1 hr1 ((s1.put hl q2).put (by rw [List.length_set]; exact hl2) q3) w1⟩)

/-! while -/
/-- turns of f, at most n -/
def whl {S : Type} : Nat → S → (S → Option (Fl S ρ)) → Option (Fl S ρ)
  | 0, _, _ => none
  | n + 1, s, f => f s >>= fun o => match o with
    | .nx s' => whl n s' f
    | .ct s' => whl n s' f
    | .bk s' => some (.nx s')
    | .rt x => some (.rt x)
theorem gs_while {S : Type} (n : Nat) (s0 : S) (f : S → Option (Fl S ρ)) (k : Fl S ρ → Option β) (Γs : S → En X.K) (hr0 : r = whl n s0 f >>= k) (g0 : Wk C Γ (Γs s0))
    (hb : ∀ s, ET X C (Γs s) e (f s) fun x Γ1 r1 => ∃ ra, r1 = cond x ra (some (.bk s)) ∧ Wk C Γ1 (Γs s) ∧ GK X C (wpB X sts) Γ1 ra (goF C T.R Γs))
    (h : ∀ s, T.nx (Γs s) (k (.nx s))) (hret : ∀ x, k (.rt x) = some (T.ret x)) (hp : PassesOwn (model X.prog X.w) X.A X.env X.xe) : GK X C (wpS X (.While e sts [] pos)) Γ r T := GK.mk fun z σ W H D s hr kn kb kc kr => by
  rw [hr0] at hr
  obtain ⟨t, e1, e2⟩ := bind_some hr
  refine w_ps (ps_while hp pt_w pss_w) ⟨fun m σ H => ∃ s W', whl m s f = some t ∧ Sat C (Γs s) σ W' H ∧ Same W W', ⟨n, ?_⟩, ?_⟩
  · obtain ⟨W1, w1, s1⟩ := g0 σ W H s
    exact ⟨s0, W1, e1, s1, w1⟩
  · rintro m σ1 H1 ⟨s1, W1, f1, sat1, w1⟩
    cases m with
    | zero => cases f1
    | succ m =>
      obtain ⟨o, f2, f3⟩ := bind_some (show f s1 >>= _ = some t from f1)
      refine hb s1 o σ1 W1 H1 _ sat1 f2 fun x Γ2 r2 W2 H2 j2 hr2 s2 w2 => ?_
      obtain ⟨ra, e3, g3, gb⟩ := j2
      rw [e3] at hr2
      cases x with
      | false =>
        rw [if_neg Bool.false_ne_true]
        have hr2 : some (Fl.bk s1) = some o := hr2
        cases hr2
        have f3 : some (Fl.nx s1) = some t := f3
        cases f3
        obtain ⟨W3, w3, s3⟩ := g3 σ1 W2 H2 s2
        exact kn _ _ σ1 W3 H2 (h s1) e2 s3 ((w1.trans w2).trans w3)
      | true =>
        rw [if_pos rfl]
        refine ⟨fun σ' H' => ∃ m', m' < m + 1 ∧ ∃ s W', whl m' s f = some t ∧ Sat C (Γs s) σ' W' H' ∧ Same W W', fun σ' H' q => q, ?_⟩
        have hr2 : ra = some o := hr2
        refine gb o σ1 W2 H2 _ s2 hr2 (fun Γ4 r4 σ4 W4 H4 j4 hr4 s4 w4 => ?_) (fun Γ4 r4 σ4 W4 H4 j4 hr4 s4 w4 => ?_) (fun Γ4 r4 σ4 W4 H4 j4 hr4 s4 w4 => ?_) fun x v Γ4 σ4 W4 H4 e4 s4 w4 q4 => ?_
        · obtain ⟨t4, e4, g4⟩ := j4
          rw [hr4] at e4; cases e4
          obtain ⟨W5, w5, s5⟩ := g4 σ4 W4 H4 s4
          exact ⟨m, Nat.lt_succ_self _, t4, W5, f3, s5, ((w1.trans w2).trans w4).trans w5⟩
        · obtain ⟨t4, e4, g4⟩ := j4
          rw [hr4] at e4; cases e4
          have f3 : some (Fl.nx t4) = some t := f3
          cases f3
          obtain ⟨W5, w5, s5⟩ := g4 σ4 W4 H4 s4
          exact kn _ _ σ4 W5 H4 (h t4) e2 s5 (((w1.trans w2).trans w4).trans w5)
        · obtain ⟨t4, e4, g4⟩ := j4
          rw [hr4] at e4; cases e4
          obtain ⟨W5, w5, s5⟩ := g4 σ4 W4 H4 s4
          exact ⟨m, Nat.lt_succ_self _, t4, W5, f3, s5, ((w1.trans w2).trans w4).trans w5⟩
        · have e4 : Fl.rt x = o := e4
          subst e4
          have f3 : some (Fl.rt x) = some t := f3
          cases f3
          rw [hret x] at e2
          exact kr x v Γ4 σ4 W4 H4 (Option.some.inj e2) s4 ((w1.trans w2).trans w4) q4

/-! for -/
/-- what is walked: xs, whatever the heap grows to -/
structure WalksX (c : Cod X.K α) (W0 : Hp) (xs : List α) (J : It) : Prop where
  len : xs.length ≤ sizeLine
  at_ : ∀ (i : Nat) (W H : Hp), Same W0 W → Same W H →
    (xs.length ≤ i → J.stop i H) ∧ (i < xs.length → J.go i H ∧ ∀ v H', J.yld i H v H' → ∃ W' x, Grow W H W' H' ∧ xs[i]? = some x ∧ c.rp W' v x)
/-- no list is too long -/
def LenOk (H : Hp) : Prop := ∀ a xs, (Rd H a (.lst xs) ∨ Rd H a (.tup xs)) → xs.length ≤ sizeLine
theorem lenOk_of {P : Program} {w : World} {H : Hp} {h : Heap} (x : HOk P w H h) : LenOk H := fun a xs q => by
  rcases q with q | q
  · exact (q.ok x).1
  · exact (q.ok x).1
theorem pe_wL : PE X e fun σ H Q => wpe X e σ H fun v H' => LenOk H' → Q v H' := ⟨fun pins s σ H Q I h => thn (h pins s I) fun v s1 ⟨x, H1, I1, r1, q1⟩ => ⟨x, H1, I1, r1, q1 (lenOk_of I1.hok)⟩⟩
theorem sqt_len {K : Frag} {H : Hp} {a : Addr} {xs : List V} (l : LenOk H) (h : SqT K H a xs) : xs.length ≤ sizeLine := by
  rcases h with h | ⟨o, its, n, _, _, _, hz, r⟩
  · exact l a xs (.inr h)
  · rw [r.length]; simpa using hz
theorem sql_len {K : Frag} {H : Hp} {a : Addr} {xs : List V} (l : LenOk H) (h : SqL K H a xs) : xs.length ≤ sizeLine := by
  rcases h with h | ⟨o, its, n, _, _, _, _, hz, r⟩
  · exact l a xs (.inl h)
  · rw [r.length]; simpa using hz
structure EI (X : Cx) (C : Ct) (Γ : En X.K) (tg e : Expr) (c : Cod X.K α) (r : Option β) (J : List α → En X.K → Option β → Prop) : Prop where
  run : ∀ (z : β) σ W H (R : It → Hp → Prop), Sat C Γ σ W H → r = some z →
    (∀ xs Γ' r' W' H' It, J xs Γ' r' → r' = some z → Sat C Γ' σ W' H' → Same W W' → WalksX c W' xs It → R It H') → wpi X tg e σ H R
instance {X : Cx} {C : Ct} {α β : Type} {Γ : En X.K} {tg e : Expr} {c : Cod X.K α} {r : Option β} {J : List α → En X.K → Option β → Prop} : CoeFun (EI X C Γ tg e c r J) (fun _ => ∀ (z : β) σ W H (R : It → Hp → Prop), Sat C Γ σ W H → r = some z →
    (∀ xs Γ' r' W' H' It, J xs Γ' r' → r' = some z → Sat C Γ' σ W' H' → Same W W' → WalksX c W' xs It → R It H') → wpi X tg e σ H R) := ⟨EI.run⟩
variable {tg : Expr}
theorem ei_lst {c : Cod X.K α} {J : List α → En X.K → Option β → Prop} (h : EX X C Γ e (cLst c) r J) : EI X C Γ tg e c r J := .mk fun z σ W H R s hr k =>
  w_pi (pi_list pe_wL) (h z σ W H _ s hr fun x Γ1 r1 W1 H1 v j1 hr1 s1 w1 q1 lo => by
    obtain ⟨ad, vs, rfl, h2, h3⟩ := q1
    refine ⟨ad, rfl, ⟨vs, SqL.of (s1.sub _ _ h2)⟩, k x Γ1 r1 W1 H1 _ j1 hr1 s1 w1 ⟨by rw [← h3.length]; exact sql_len (K := X.K) lo (SqL.of (s1.sub _ _ h2)), fun i W2 H2 w2 sb => ⟨fun hi => ⟨vs, SqL.of (sb _ _ (w2 _ _ h2)), by rw [h3.length]; exact hi⟩, fun hi => ?_⟩⟩⟩
    have hs : SqL X.K H2 ad vs := SqL.of (sb _ _ (w2 _ _ h2))
    obtain ⟨v, e1, e2⟩ := h3.get (i := i) (x := x[i]) (by simp [hi])
    refine ⟨⟨vs, v, hs, e1⟩, fun v' H' ⟨eH, y⟩ => ?_⟩
    subst eH
    have ev := y vs hs
    rw [e1] at ev; cases ev
    exact ⟨W2, x[i], Grow.refl sb, by simp [hi], c.mono w2 e2⟩)
theorem ei_seq {c : Cod X.K α} {J : List α → En X.K → Option β → Prop} (h : EX X C Γ e (cSeq c) r J) : EI X C Γ tg e c r J := .mk fun z σ W H R s hr k =>
  w_pi (pi_tup pe_wL) (h z σ W H _ s hr fun x Γ1 r1 W1 H1 v j1 hr1 s1 w1 q1 lo => by
    obtain ⟨ad, vs, rfl, h2, h3⟩ := q1
    refine ⟨ad, rfl, ⟨vs, Same.tup s1.sub h2⟩, k x Γ1 r1 W1 H1 _ j1 hr1 s1 w1 ⟨by rw [← h3.length]; exact sqt_len lo (Same.tup s1.sub h2), fun i W2 H2 w2 sb => ⟨fun hi => ⟨vs, Same.tup sb (Same.tup w2 h2), by rw [h3.length]; exact hi⟩, fun hi => ?_⟩⟩⟩
    have hs : SqT X.K H2 ad vs := Same.tup sb (Same.tup w2 h2)
    obtain ⟨v, e1, e2⟩ := h3.get (i := i) (x := x[i]) (by simp [hi])
    refine ⟨⟨vs, v, hs, e1⟩, fun v' H' ⟨eH, y⟩ => ?_⟩
    subst eH
    have ev := y vs hs
    rw [e1] at ev; cases ev
    exact ⟨W2, x[i], Grow.refl sb, by simp [hi], c.mono w2 e2⟩)
theorem ei_scr {J : List Int → En X.K → Option β → Prop} (h : EX X C Γ e cScr r J) : EI X C Γ tg e cInt r J := .mk fun z σ W H R s hr k =>
  w_pi (pi_list pe_wL) (h z σ W H _ s hr fun x Γ1 r1 W1 H1 v j1 hr1 s1 w1 q1 lo => by
    obtain ⟨ad, rfl, h2⟩ := q1
    have h3 := Row.of_ints (K := X.K) (H := W1) x
    refine ⟨ad, rfl, ⟨_, Same.seq s1.sub h2⟩, k x Γ1 r1 W1 H1 _ j1 hr1 s1 w1 ⟨by rw [← h3.length]; exact sql_len lo (Same.seq s1.sub h2), fun i W2 H2 w2 sb => ⟨fun hi => ⟨_, Same.seq sb (Same.seq w2 h2), by rw [h3.length]; exact hi⟩, fun hi => ?_⟩⟩⟩
    have hs := Same.seq sb (Same.seq w2 h2)
    obtain ⟨v, e1, e2⟩ := h3.get (i := i) (x := x[i]) (by simp [hi])
    refine ⟨⟨_, v, hs, e1⟩, fun v' H' ⟨eH, y⟩ => ?_⟩
    subst eH
    have ev := y _ hs
    rw [e1] at ev; cases ev
    exact ⟨W2, x[i], Grow.refl sb, by simp [hi], e2⟩)
/-- lo, lo + 1, .. below hi -/
def rangeI (lo hi : Int) : List Int := (List.range (hi - lo).toNat).map fun i : Nat => lo + (i : Int)
def CRng (i : Int) : Prop := -8000000 ≤ i ∧ i ≤ 8000000
instance (i : Int) : Decidable (CRng i) := inferInstanceAs (Decidable (_ ∧ _))
def rng1 (n : Int) : Option (List Int) := if CRng n then some (rangeI 0 n) else none
def rng2 (i j : Int) : Option (List Int) := if CRng i ∧ CRng j then some (rangeI i j) else none
theorem walks_rng {W0 : Hp} (lo : Int) (hi : Int) (h1 : CRng lo) (h2 : CRng hi) : WalksX (X := X) cInt W0 (rangeI lo hi) (Itr lo (hi - lo).toNat) := by
  have hl : (rangeI lo hi).length = (hi - lo).toNat := by simp [rangeI]
  refine ⟨by rw [hl]; obtain ⟨a, b⟩ := h1; obtain ⟨c, d⟩ := h2; exact Nat.le_trans (show (hi - lo).toNat ≤ 16000000 by omega) (by decide), fun i W H w sb => ?_⟩
  rw [hl]
  refine ⟨fun h => h, fun h => ⟨h, fun v H' ⟨eH, ev⟩ => ?_⟩⟩
  subst eH
  exact ⟨W, lo + (i : Int), Grow.refl sb, by simp [rangeI, h], ev⟩
theorem ei_rng1 {J : List Int → En X.K → Option β → Prop} (hm : X.mg "range" = none) (h : EX X C Γ a cInt r fun n Γ1 r1 => ∃ k, r1 = rng1 n >>= k ∧ ∀ xs, J xs Γ1 (k xs)) (hg : Gl X "range" := by rfl) (hs : starEach [a] X.env = [(false, eval a X.env)] := by rfl) :
    EI X C Γ tg (.Call (.Name "range" p) [a] [] pos) cInt r J := .mk fun z σ W H R s hr k =>
  w_pi (pi_range1 hg hm (pa_cons pe_w pa_nil hs) hs) (h z σ W H _ s hr fun n Γ1 r1 W1 H1 v j1 hr1 s1 w1 q1 => by
    obtain ⟨k2, e2, j2⟩ := j1
    rw [e2] at hr1
    obtain ⟨t, et, ht⟩ := bind_some hr1
    unfold rng1 at et
    split at et
    · rename_i hc
      cases et
      obtain ⟨c1, c2⟩ := id hc
      refine ⟨n, by rw [show v = V.int n from q1], by omega, by omega, k _ Γ1 _ W1 H1 _ (j2 _) ht s1 w1 ?_⟩
      have := walks_rng (X := X) (W0 := W1) 0 n ⟨by decide, by decide⟩ hc
      rwa [Int.sub_zero] at this
    · cases et)
theorem ei_rng2 {J : List Int → En X.K → Option β → Prop} (hm : X.mg "range" = none) (h : EA X C Γ [a, b] (tcC cInt (tc1 cInt)) r fun n Γ1 r1 => ∃ k, r1 = rng2 n.1 n.2 >>= k ∧ ∀ xs, J xs Γ1 (k xs)) (hg : Gl X "range" := by rfl)
    (hs : starEach [a, b] X.env = [(false, eval a X.env), (false, eval b X.env)] := by rfl) (hs2 : starEach [b] X.env = [(false, eval b X.env)] := by rfl) :
    EI X C Γ tg (.Call (.Name "range" p) [a, b] [] pos) cInt r J := .mk fun z σ W H R s hr k =>
  w_pi (pi_range2 hg hm pa_w hs hs2) (h z σ W H _ s hr fun n Γ1 r1 W1 H1 vs j1 hr1 s1 w1 q1 => by
    obtain ⟨v1, r, rfl, q2, v2, rfl, q3⟩ := q1
    obtain ⟨k2, e2, j2⟩ := j1
    rw [e2] at hr1
    obtain ⟨t, et, ht⟩ := bind_some hr1
    unfold rng2 at et
    split at et
    · rename_i hc
      cases et
      cases q2; cases q3
      obtain ⟨⟨c1, c2⟩, ⟨c3, c4⟩⟩ := id hc
      exact ⟨n.1, n.2, rfl, ⟨by omega, by omega, by omega, by omega⟩, k _ Γ1 _ W1 H1 _ (j2 _) ht s1 w1 (walks_rng _ _ hc.1 hc.2)⟩
    · cases et)
/-- a loop that only goes on -/
def forS {S : Type} : List α → S → (α → S → Option S) → Option S
  | [], s, _ => some s
  | x :: xs, s, f => f x s >>= fun s' => forS xs s' f
/-- .. that may go back, out, again -/
def forF {S : Type} : List α → S → (α → S → Option (Fl S ρ)) → Option (Fl S ρ)
  | [], s, _ => some (.nx s)
  | x :: xs, s, f => f x s >>= fun o => match o with
    | .nx s' => forF xs s' f
    | .ct s' => forF xs s' f
    | .bk s' => some (.nx s')
    | .rt x => some (.rt x)
theorem gs_forS {S : Type} {c : Cod X.K α} {ws : List Nat} {up : En X.K → α → En X.K} (Γs : S → En X.K) (hc : X.calm = true) (hg : AG X C tg c ws up)
    (h : EI X C Γ tg e c r fun xs Γ1 r1 => ∃ s0 f k, r1 = forS xs s0 f >>= k ∧ Wk C Γ1 (Γs s0) ∧ (∀ x s, GK X C (wpB X sts) (up (Γs s) x) (f x s) { goS C Γs with ct := (goS C Γs).nx }) ∧ ∀ s, T.nx (Γs s) (k s))
    (hp : PassesOwn (model X.prog X.w) X.A X.env X.xe) (hs : ∀ x, foldedSetIterable e X.env x = pure x := by intro _; rfl) : GK X C (wpS X (.For tg e sts [] pos)) Γ r T := GK.mk fun z σ W H D s hr kn kb kc kr =>
  w_ps (ps_for hp hc pi_w pg_w pss_w hs) (h z σ W H _ s hr fun xs Γ1 r1 W1 H1 It j1 hr1 s1 w1 wk => by
    obtain ⟨s0, f, k, e1, g0, body, hk⟩ := j1
    rw [e1] at hr1
    obtain ⟨t, f1, f2⟩ := bind_some hr1
    refine ⟨fun i m σ H => m = xs.length - i ∧ i ≤ xs.length ∧ ∃ s W', forS (xs.drop i) s f = some t ∧ Sat C (Γs s) σ W' H ∧ Same W1 W', ⟨xs.length, ?_⟩, ?_⟩
    · obtain ⟨W2, w2, s2⟩ := g0 σ W1 H1 s1
      exact ⟨by simp, Nat.zero_le _, s0, W2, by simpa using f1, s2, w2⟩
    · rintro i m σ2 H2 ⟨rfl, hi, s2, W2, f3, sat2, w2⟩
      obtain ⟨st, gg⟩ := wk.at_ i W2 H2 w2 sat2.sub
      by_cases hl : i < xs.length
      · obtain ⟨go, yy⟩ := gg hl
        have ed : xs.drop i = xs[i] :: xs.drop (i + 1) := List.drop_eq_getElem_cons hl
        rw [ed] at f3
        obtain ⟨s3, f4, f5⟩ := bind_some (show f xs[i] s2 >>= _ = some t from f3)
        refine .inr ⟨go, fun σ' H' => ∃ s W', forS (xs.drop (i + 1)) s f = some t ∧ Sat C (Γs s) σ' W' H' ∧ Same W1 W', fun σ' H' q => ⟨xs.length - (i + 1), by omega, rfl, hl, q⟩, fun v H3 y => ?_⟩
        obtain ⟨W3, x, G, ex, rx⟩ := yy v H3 y
        have ex' : xs[i] = x := by rw [List.getElem?_eq_getElem hl] at ex; exact Option.some.inj ex
        subst ex'
        refine hg.run (Γs s2) σ2 W3 H3 v xs[i] _ (sat2.grow G) rx fun σ4 s4 _ => ?_
        have fin : ∀ (Γ' : En X.K) (r' : Option S) (σ' : L2.St) (W' H' : Hp), (goS C Γs).nx Γ' r' → r' = some s3 → Sat C Γ' σ' W' H' → Same W3 W' → ∃ s W', forS (xs.drop (i + 1)) s f = some t ∧ Sat C (Γs s) σ' W' H' ∧ Same W1 W' := fun Γ' r' σ' W' H' j hr' s' w' => by
          obtain ⟨s5, e5, g5⟩ := j
          rw [hr'] at e5; cases e5
          obtain ⟨W6, w6, s6⟩ := g5 σ' W' H' s'
          exact ⟨s3, W6, f5, s6, ((w2.trans G.w).trans w').trans w6⟩
        exact body xs[i] s2 s3 σ4 W3 H3 _ s4 f4 (fun Γ' r' σ' W' H' j hr' s' w' => fin Γ' r' σ' W' H' j hr' s' w') (fun _ _ _ _ _ f => f.elim) (fun Γ' r' σ' W' H' j hr' s' w' => fin Γ' r' σ' W' H' j hr' s' w') fun x => x.elim
      · have ei : i = xs.length := by omega
        subst ei
        rw [List.drop_length] at f3
        have f3 : some s2 = some t := f3
        cases f3
        exact .inl ⟨st (Nat.le_refl _), kn _ _ σ2 W2 H2 (hk _) f2 sat2 (w1.trans w2)⟩)
theorem gs_forF {S : Type} {c : Cod X.K α} {ws : List Nat} {up : En X.K → α → En X.K} (Γs : S → En X.K) (hc : X.calm = true) (hg : AG X C tg c ws up)
    (h : EI X C Γ tg e c r fun xs Γ1 r1 => ∃ s0 f k, r1 = forF xs s0 f >>= k ∧ Wk C Γ1 (Γs s0) ∧ (∀ x s, GK X C (wpB X sts) (up (Γs s) x) (f x s) (goF C T.R Γs)) ∧ (∀ s, T.nx (Γs s) (k (.nx s))) ∧ ∀ x, k (.rt x) = some (T.ret x))
    (hp : PassesOwn (model X.prog X.w) X.A X.env X.xe) (hs : ∀ x, foldedSetIterable e X.env x = pure x := by intro _; rfl) : GK X C (wpS X (.For tg e sts [] pos)) Γ r T := GK.mk fun z σ W H D s hr kn kb kc kr =>
  w_ps (ps_for hp hc pi_w pg_w pss_w hs) (h z σ W H _ s hr fun xs Γ1 r1 W1 H1 It j1 hr1 s1 w1 wk => by
    obtain ⟨s0, f, k, e1, g0, body, hk, hret⟩ := j1
    rw [e1] at hr1
    obtain ⟨t, f1, f2⟩ := bind_some hr1
    refine ⟨fun i m σ H => m = xs.length - i ∧ i ≤ xs.length ∧ ∃ s W', forF (xs.drop i) s f = some t ∧ Sat C (Γs s) σ W' H ∧ Same W1 W', ⟨xs.length, ?_⟩, ?_⟩
    · obtain ⟨W2, w2, s2⟩ := g0 σ W1 H1 s1
      exact ⟨by simp, Nat.zero_le _, s0, W2, by simpa using f1, s2, w2⟩
    · rintro i m σ2 H2 ⟨rfl, hi, s2, W2, f3, sat2, w2⟩
      obtain ⟨st, gg⟩ := wk.at_ i W2 H2 w2 sat2.sub
      by_cases hl : i < xs.length
      · obtain ⟨go, yy⟩ := gg hl
        have ed : xs.drop i = xs[i] :: xs.drop (i + 1) := List.drop_eq_getElem_cons hl
        rw [ed] at f3
        obtain ⟨o, f4, f5⟩ := bind_some (show f xs[i] s2 >>= _ = some t from f3)
        refine .inr ⟨go, fun σ' H' => ∃ s W', forF (xs.drop (i + 1)) s f = some t ∧ Sat C (Γs s) σ' W' H' ∧ Same W1 W', fun σ' H' q => ⟨xs.length - (i + 1), by omega, rfl, hl, q⟩, fun v H3 y => ?_⟩
        obtain ⟨W3, x, G, ex, rx⟩ := yy v H3 y
        have ex' : xs[i] = x := by rw [List.getElem?_eq_getElem hl] at ex; exact Option.some.inj ex
        subst ex'
        refine hg.run (Γs s2) σ2 W3 H3 v xs[i] _ (sat2.grow G) rx fun σ4 s4 _ => ?_
        refine body xs[i] s2 o σ4 W3 H3 _ s4 f4 (fun Γ' r' σ' W' H' j hr' s' w' => ?_) (fun Γ' r' σ' W' H' j hr' s' w' => ?_) (fun Γ' r' σ' W' H' j hr' s' w' => ?_) fun x v Γ' σ' W' H' e' s' w' q' => ?_
        · obtain ⟨s5, e5, g5⟩ := j
          rw [hr'] at e5; cases e5
          obtain ⟨W6, w6, s6⟩ := g5 σ' W' H' s'
          exact ⟨s5, W6, f5, s6, ((w2.trans G.w).trans w').trans w6⟩
        · obtain ⟨s5, e5, g5⟩ := j
          rw [hr'] at e5; cases e5
          have f5 : some (Fl.nx s5) = some t := f5
          cases f5
          obtain ⟨W6, w6, s6⟩ := g5 σ' W' H' s'
          exact kn _ _ σ' W6 H' (hk s5) f2 s6 (w1.trans (((w2.trans G.w).trans w').trans w6))
        · obtain ⟨s5, e5, g5⟩ := j
          rw [hr'] at e5; cases e5
          obtain ⟨W6, w6, s6⟩ := g5 σ' W' H' s'
          exact ⟨s5, W6, f5, s6, ((w2.trans G.w).trans w').trans w6⟩
        · have e' : Fl.rt x = o := e'
          subst e'
          have f5 : some (Fl.rt x) = some t := f5
          cases f5
          rw [hret x] at f2
          exact kr x v Γ' σ' W' H' (Option.some.inj f2) s' (w1.trans ((w2.trans G.w).trans w')) q'
      · have ei : i = xs.length := by omega
        subst ei
        rw [List.drop_length] at f3
        have f3 : some (Fl.nx s2) = some t := f3
        cases f3
        exact .inl ⟨st (Nat.le_refl _), kn _ _ σ2 W2 H2 (hk s2) f2 sat2 (w1.trans w2)⟩)
end
end Ty

set_option maxHeartbeats 4000000
namespace Ty
open PySem PySem.Spec PyProof.Rows L2

/-! ### comprehensions -/
section
variable {α β S : Type}
/-- [f x for x in xs if t x], a state handed on -/
def lcG (t : α → S → Option (Bool × S)) (f : α → S → Option (β × S)) : List α → S → Option (List β × S)
  | [], s => some ([], s)
  | x :: xs, s => t x s >>= fun b => cond b.1 (f x b.2 >>= fun y => lcG t f xs y.2 >>= fun ys => some (y.1 :: ys.1, ys.2)) (lcG t f xs b.2)
def mapR (f : α → Option β) : List α → Option (List β)
  | [] => some []
  | x :: xs => f x >>= fun y => mapR f xs >>= fun ys => some (y :: ys)
def fltR (t : α → Option Bool) (f : α → Option β) : List α → Option (List β)
  | [] => some []
  | x :: xs => t x >>= fun b => cond b (f x >>= fun y => fltR t f xs >>= fun ys => some (y :: ys)) (fltR t f xs)
def mapS (f : α → S → Option (β × S)) : List α → S → Option (List β × S)
  | [], s => some ([], s)
  | x :: xs, s => f x s >>= fun y => mapS f xs y.2 >>= fun ys => some (y.1 :: ys.1, ys.2)
theorem obind_some {γ δ : Type} (a : γ) (k : γ → Option δ) : (some a >>= k) = k a := rfl
theorem lcG_map (f : α → Option β) : ∀ (xs : List α), lcG (fun _ s => some (true, s)) (fun x (s : Unit) => f x >>= fun y => some (y, s)) xs () = mapR f xs >>= fun ys => some (ys, ())
  | [] => rfl
  | x :: xs => by
    unfold lcG mapR
    simp only [obind_some, cond_true]
    cases f x with
    | none => rfl
    | some y =>
      simp only [obind_some]
      rw [lcG_map f xs]
      cases mapR f xs <;> rfl
theorem lcG_flt (t : α → Option Bool) (f : α → Option β) : ∀ (xs : List α), lcG (fun x s => t x >>= fun b => some (b, s)) (fun x (s : Unit) => f x >>= fun y => some (y, s)) xs () = fltR t f xs >>= fun ys => some (ys, ())
  | [] => rfl
  | x :: xs => by
    unfold lcG fltR
    cases t x with
    | none => rfl
    | some b =>
      simp only [obind_some]
      cases b with
      | false =>
        simp only [cond_false]
        exact lcG_flt t f xs
      | true =>
        simp only [cond_true]
        cases f x with
        | none => rfl
        | some y =>
          simp only [obind_some]
          rw [lcG_flt t f xs]
          cases fltR t f xs <;> rfl
theorem lcG_mapS (f : α → S → Option (β × S)) : ∀ (xs : List α) (s : S), lcG (fun _ s => some (true, s)) f xs s = mapS f xs s
  | [], s => rfl
  | x :: xs, s => by
    unfold lcG mapS
    simp only [obind_some, cond_true]
    congr 1
    funext y
    rw [lcG_mapS f xs]
theorem lcG_len {t : α → S → Option (Bool × S)} {f : α → S → Option (β × S)} : ∀ {xs : List α} {s : S} {z : List β × S}, lcG t f xs s = some z → z.1.length ≤ xs.length
  | [], s, z, h => by cases h; exact Nat.le_refl _
  | x :: xs, s, z, h => by
    obtain ⟨b, _, h2⟩ := bind_some (show t x s >>= _ = some z from h)
    cases hb : b.1 with
    | true =>
      rw [hb] at h2
      obtain ⟨y, _, h3⟩ := bind_some h2
      obtain ⟨ys, h4, h5⟩ := bind_some h3
      cases h5
      have := lcG_len h4
      simp only [List.length_cons]; omega
    | false =>
      rw [hb] at h2
      have := lcG_len (show lcG t f xs b.2 = some z from h2)
      simp only [List.length_cons]; omega
end
section
variable {X : Cx} {C : Ct} {ρ α β γ : Type} {Γ : En X.K} {tg elt e a b : Expr} {ifs es : List Expr} {r : Option ρ} {scope : Scope} {own' : List (Str × Nat)} {pos p p2 p3 : Pos}
def tsts (ifs : List Expr) (env : Env) : Sem Bool := forIn ifs true fun c r => if r = true then do let ok ← isTrue c env (eval c env); pure (ForInStep.yield ok) else pure (ForInStep.yield r)
/-- the tests of a comprehension -/
def EQ (X : Cx) (C : Ct) {ρ : Type} (Γ : En X.K) (es : List Expr) (r : Option ρ) (J : Bool → En X.K → Option ρ → Prop) : Prop :=
  ∀ (z : ρ) σ W H (Q : Bool → Hp → Prop), Sat C Γ σ W H → r = some z →
    (∀ x Γ' r' W' H', J x Γ' r' → r' = some z → Sat C Γ' σ W' H' → Same W W' → Q x H') → ∀ pins s, Inv X pins σ H s → wpAny (model X.prog X.w) X.A (tsts es X.env) (TP X pins σ Q) X.xe s
theorem eq_nil {J : Bool → En X.K → Option ρ → Prop} (h : J true Γ r) : EQ X C Γ [] r J := fun z σ W H Q s hr k pins sh I => pts_nil.run pins sh σ H Q I (k true Γ r W H h hr s (Same.refl _))
theorem eq_one {J : Bool → En X.K → Option ρ → Prop} (h : ET X C Γ e r J) : EQ X C Γ [e] r J := fun z σ W H Q s hr k pins sh I => (pts_one pt_w).run pins sh σ H Q I (h z σ W H Q s hr k)
/-- the context of a comprehension's block -/
abbrev bx (X : Cx) (scope : Scope) (s : Shared) (H : Hp) (Cc : Addr) (cl : List (Str × Addr)) (fp : List Addr) : Cx := X.blk s H scope (compEnvC scope cl Cc X.env) fp
theorem bind_val {δ : Type} (t : δ) (k : δ → Option ρ) : (some t >>= k) = k t := rfl
/-- [elt for tg in e if ..] gives a new list -/
def LC (X : Cx) (C : Ct) {ρ β : Type} (Γ : En X.K) (elt tg e : Expr) (ifs : List Expr) (scope : Scope) (d : Cod X.K β) (r : Option ρ) (J : List β → En X.K → Option ρ → Prop) : Prop :=
  ∃ (own' : List (Str × Nat)) (wi : TI) (g : TG) (tt : TT) (te : TE), BlkOk X.N X.env.scope scope own' ∧ PI X tg e wi ∧ (∀ sh H Cc cl fp, PG (bx X scope sh H Cc cl fp) tg g) ∧ (∀ sh H Cc cl fp, PTs (bx X scope sh H Cc cl fp) ifs tt) ∧
    (∀ sh H Cc cl fp, PE (bx X scope sh H Cc cl fp) elt te) ∧ (∀ x, foldedSetIterable e X.env x = pure x) ∧
    ∀ (z : ρ) σ W H (Q : VK), Sat C Γ σ W H → r = some z →
      (∀ x Γ' r' W' H' p o, J x Γ' r' → r' = some z → Sat C Γ' σ W' H' → Same W W' → W' p = none → C.H p = none → H' p = some o → (lstC d).ct W' o x → Apart Γ' σ p → C.a ≠ some p → Q (.ref p) H') → tLc wi g tt te (own'.map (·.2)) σ H Q
theorem ef_lc {d : Cod X.K β} {J : List β → En X.K → Option ρ → Prop} (hc : X.calm = true) (hnd : X.N.Nodup) (h : LC X C Γ elt tg e ifs scope d r J) : EF X C Γ (.ListComp elt [⟨tg, e, ifs, 0⟩] scope pos) (lstC d) r J := by
  obtain ⟨own', wi, g, tt, te, ok, hi, hg, ht, he, hs, hq⟩ := h
  exact .mk fun z σ W H Q s hr k => w_pe (pe_lc hc hnd hi ok hg ht he hs) (hq z σ W H Q s hr k)
theorem gs_setLc {β' ρ' : Type} {r : Option β'} {T : Go X.K ρ' β'} {d : Cod X.K β} {y : Str} {py spos : Pos} (i : Nat) (hc : X.calm = true) (hnd : X.N.Nodup) (h : LC X C Γ elt tg e ifs scope d r fun x Γ1 r1 => T.nx (Γ1.set i (.ow (lstC d) x)) r1) (hy : X.N[i]? = some y := by rfl) (hyl : X.env.scope.names.lookup y = some .local := by rfl)
    (hsw : swapsWith (.ListComp elt [⟨tg, e, ifs, 0⟩] scope pos) (some (.Name y py)) spos.line X.env = pure true := by exact sw_true rfl rfl rfl (by decide +kernel)) : GK X C (wpS X (.Assign [.Name y py] (.ListComp elt [⟨tg, e, ifs, 0⟩] scope pos) spos)) Γ r T := by
  obtain ⟨own', wi, g, tt, te, ok, hi, hg, ht, he, hs, hq⟩ := h
  exact GK.mk fun z σ W H D s hr kn kb kc kr pins sh I => by
    have hl : i < σ.length := set_len (n := 0) I.len hy
    exact (ps_setLc hc hnd hy hyl hsw hi ok hg ht he hs).run pins sh σ H D I (hq z σ W H _ s hr fun x Γ1 r1 W1 H1 p o j1 hr1 s1 w1 wp cp hp ct ap la => kn _ r1 _ W1 H1 j1 hr1 (s1.take hl wp (.inl cp) hp ct ap la) w1)
/-- .. that stands still from now on -/
theorem gs_setLcV {β' ρ' : Type} {r : Option β'} {T : Go X.K ρ' β'} {d : Cod X.K β} {y : Str} {py spos : Pos} (i : Nat) (hc : X.calm = true) (hnd : X.N.Nodup) (hB : ∀ a, ¬ C.B a) (h : LC X C Γ elt tg e ifs scope d r fun x Γ1 r1 => i < Γ1.length ∧ T.nx (Γ1.set i (.im (cLst d) x)) r1) (hy : X.N[i]? = some y := by rfl) (hyl : X.env.scope.names.lookup y = some .local := by rfl)
    (hsw : swapsWith (.ListComp elt [⟨tg, e, ifs, 0⟩] scope pos) (some (.Name y py)) spos.line X.env = pure true := by exact sw_true rfl rfl rfl (by decide +kernel)) : GK X C (wpS X (.Assign [.Name y py] (.ListComp elt [⟨tg, e, ifs, 0⟩] scope pos) spos)) Γ r T := by
  obtain ⟨own', wi, g, tt, te, ok, hi, hg, ht, he, hs, hq⟩ := h
  exact GK.mk fun z σ W H D s hr kn kb kc kr pins sh I => by
    have hl : i < σ.length := set_len (n := 0) I.len hy
    refine (ps_setLc hc hnd hy hyl hsw hi ok hg ht he hs).run pins sh σ H D I (hq z σ W H _ s hr fun x Γ1 r1 W1 H1 p o j1 hr1 s1 w1 wp cp hp ct ap la => ?_)
    obtain ⟨hlen, j1⟩ := j1
    have t := s1.take hl wp (.inl cp) hp ct ap la
    obtain ⟨W2, w2, s2⟩ := t.freeze (i := i) (c := d) (xs := x) (by rw [List.getElem?_set_self hlen]) fun a z => absurd z (hB a)
    rw [List.set_set] at s2
    exact kn _ r1 _ W2 H1 j1 hr1 s2 (w1.trans w2)
theorem lc_G {S : Type} {c : Cod X.K α} {d : Cod X.K β} {ws : List Nat} {up : En X.K → α → En X.K} {J : List β → En X.K → Option ρ → Prop} (ok : BlkOk X.N X.env.scope scope own')
    (h : EI X C Γ tg e c r fun xs Γ1 r1 => ∃ (Γs : S → En X.K), ∃ t f s0 k, r1 = lcG t f xs s0 >>= k ∧ Wk C Γ1 (drops (own'.map (·.2)) (Γs s0)) ∧ (∀ s, drops (own'.map (·.2)) (Γs s) = Γs s) ∧ (∀ z, J z.1 (Γs z.2) (k z)) ∧
      (∀ (C' : Ct) sh H Cc cl fp x s, EQ (bx X scope sh H Cc cl fp) C' (up (Γs s) x) ifs (t x s) fun b' Γ2 r2 => ∃ s2, r2 = some (b', s2) ∧ Wk C' Γ2 (up (Γs s2) x)) ∧
      (∀ (C' : Ct) sh H Cc cl fp x s, EX (bx X scope sh H Cc cl fp) C' (up (Γs s) x) elt d (f x s) fun y Γ2 r2 => ∃ s2, r2 = some (y, s2) ∧ Wk C' Γ2 (Γs s2)))
    (hg : ∀ (C' : Ct) sh H Cc cl fp, AG (bx X scope sh H Cc cl fp) C' tg c ws up) (hws : ∀ i ∈ ws, i ∈ own'.map (·.2) := by decide)
    (hs : ∀ x, foldedSetIterable e X.env x = pure x := by intro _; rfl) : LC X C Γ elt tg e ifs scope d r J := by
  -- the readings of the block's parts, whatever they are asked
  refine ⟨own', wpi X tg e, fun v σ1 H1 Q1 => ∀ sh H0 Cc cl fp, wpg (bx X scope sh H0 Cc cl fp) tg v σ1 H1 Q1,
    fun σ1 H1 Q1 => ∀ sh H0 Cc cl fp pins s', Inv (bx X scope sh H0 Cc cl fp) pins σ1 H1 s' → wpAny (model X.prog X.w) X.A (tsts ifs (bx X scope sh H0 Cc cl fp).env) (TP (bx X scope sh H0 Cc cl fp) pins σ1 Q1) (bx X scope sh H0 Cc cl fp).xe s',
    fun σ1 H1 Q1 => ∀ sh H0 Cc cl fp, wpe (bx X scope sh H0 Cc cl fp) elt σ1 H1 Q1,
    ok, pi_w, fun sh H0 Cc cl fp => ⟨fun pins s σ H v u Q I r h => h sh H0 Cc cl fp pins s u I r⟩, fun sh H0 Cc cl fp => ⟨fun pins s σ H Q I h => h sh H0 Cc cl fp pins s I⟩,
    fun sh H0 Cc cl fp => ⟨fun pins s σ H Q I h => h sh H0 Cc cl fp pins s I⟩, hs, fun z σ W H Q sat hr kk => ?_⟩
  refine h z σ W H _ sat hr fun xs Γ1 r1 W1 H1 It j1 hr1 s1 w1 wk => ?_
  have hlen := wk.len
  obtain ⟨Γs, t, f, s0, k, e1, g0, hdr, hk, htest, helt⟩ := j1
  have hup : ∀ (C' : Ct) sh H Cc cl fp s x, AG (bx X scope sh H Cc cl fp) C' tg c ws up → Wk C' (up (Γs s) x) (Γs s) := fun C' sh H Cc cl fp s x ag => by
    have q := wk_drops' (C := C') (own'.map (·.2)) (Γ := up (Γs s) x)
    rw [show drops (own'.map (·.2)) (up (Γs s) x) = Γs s from (ag.dr (Γs s) x _ hws).trans (hdr s)] at q
    exact q
  intro D hD
  rw [e1] at hr1
  obtain ⟨zz, f1, f2⟩ := bind_some hr1
  obtain ⟨W2, w2, s2⟩ := g0 σ W1 H1 s1
  rw [hdr] at s2
  obtain ⟨s3, wD, cD, apD, laD⟩ := s2.fresh (o := HO.lst []) hD
  have bD : ¬ C.B D := fun z => s2.lb D (.inl z) hD
  refine ⟨fun i m H' => m = xs.length - i ∧ i ≤ xs.length ∧ ∃ s acc ys rest W', lcG t f (xs.drop i) s = some rest ∧ zz = (ys ++ rest.1, rest.2) ∧ H' D = some (.lst acc) ∧ W' D = none ∧ Apart (Γs s) σ D ∧ Row d W' acc ys ∧ ys.length ≤ i ∧ Same W2 W' ∧ Sat C (Γs s) σ W' H', ⟨xs.length, ?_⟩, ?_⟩
  · exact ⟨by simp, Nat.zero_le _, s0, [], [], zz, W2, by simpa using f1, by simp, upd_same, wD, apD, .nil, Nat.le_refl _, Same.refl _, s3⟩
  rintro i m H' ⟨rfl, hi, s, acc, ys, rest, W', g1, g2, hD', wD', ap', row, hy, w', sat'⟩
  obtain ⟨stop, gg⟩ := wk.at_ i W' H' (w2.trans w') sat'.sub
  by_cases hl : i < xs.length
  · obtain ⟨go, yy⟩ := gg hl
    have ed : xs.drop i = xs[i] :: xs.drop (i + 1) := List.drop_eq_getElem_cons hl
    rw [ed] at g1
    obtain ⟨b1, t1, t2⟩ := bind_some (show t xs[i] s >>= _ = some rest from g1)
    refine .inr ⟨go, fun H' => ∃ s acc ys rest W', lcG t f (xs.drop (i + 1)) s = some rest ∧ zz = (ys ++ rest.1, rest.2) ∧ H' D = some (.lst acc) ∧ W' D = none ∧ Apart (Γs s) σ D ∧ Row d W' acc ys ∧ ys.length ≤ i + 1 ∧ Same W2 W' ∧ Sat C (Γs s) σ W' H',
      fun H' q => ⟨xs.length - (i + 1), by omega, rfl, hl, q⟩, fun v H3 y => ?_⟩
    obtain ⟨W3, x, G, ex, rx⟩ := yy v H3 y
    have ex' : xs[i] = x := by rw [List.getElem?_eq_getElem hl] at ex; exact Option.some.inj ex
    subst ex'
    have sat3 := sat'.grow G
    have hD3 := G.h _ _ hD'
    have wD3 := G.nw D (by rw [hD']; simp) wD'
    -- the block's own context: all that stands stays
    have into := sat3.into
    have wp0 : Sat (inner C (Γs s) σ W3 H3) (Γs s) (L2.wipe σ (own'.map (·.2))) W3 H3 := by
      have q := into.wipe (own'.map (·.2))
      rw [show drops0 (own'.map (·.2)) (Γs s) = Γs s from hdr s] at q
      exact q
    intro sh H0 Cc cl fp
    refine (hg (inner C (Γs s) σ W3 H3) sh H0 Cc cl fp).run (Γs s) (L2.wipe σ (own'.map (·.2))) W3 H3 v xs[i] _ wp0 rx fun σ4 s4 ag => ?_
    have hw : L2.wipe σ4 (own'.map (·.2)) = L2.wipe σ (own'.map (·.2)) := by
      rw [ag.wipe hws]
      have idem : ∀ (vs us : List Nat) (τ : L2.St), (∀ i ∈ us, i ∈ vs) → L2.wipe (L2.wipe τ us) vs = L2.wipe τ vs := fun vs us τ hs => by
        apply List.ext_getElem?
        intro j
        have one : ∀ (τ : L2.St) (vs : List Nat), j ∈ vs → (L2.wipe τ vs)[j]? = if j < τ.length then some none else none := by
          intro τ vs
          induction vs with
          | nil => intro h; cases h
          | cons v vs ih =>
            intro hm
            show ((L2.wipe τ vs).set v none)[j]? = _
            by_cases hv : j = v
            · subst hv
              rw [List.getElem?_set]
              simp [wipe_length]
            · rw [List.getElem?_set_ne (Ne.symm hv)]
              exact ih ((List.mem_cons.mp hm).resolve_left hv)
        by_cases hj : j ∈ vs
        · rw [one _ vs hj, one _ vs hj, wipe_length]
        · rw [wipe_get hj, wipe_get hj, wipe_get fun z => hj (hs j z)]
      exact idem _ _ σ fun i h => h
    refine ⟨hw, fun sh H0 Cc cl fp pins s' I => ?_⟩
    refine htest (inner C (Γs s) σ W3 H3) sh H0 Cc cl fp xs[i] s b1 σ4 W3 H3 _ s4 t1 (fun bb Γ5 r5 W5 H5 j5 hr5 s5 w5 => ?_) pins s' I
    obtain ⟨s6, e6, wk6⟩ := j5
    rw [hr5] at e6; cases e6
    obtain ⟨W6, w6, sat6⟩ := wk6 σ4 W5 H5 s5
    -- back to the def's context at a turn's end
    have back : ∀ {s7 : S} {W7 H7 : Hp}, Sat (inner C (Γs s) σ W3 H3) (Γs s7) σ4 W7 H7 → Sat C (Γs s7) σ W7 H7 ∧ H7 D = some (.lst acc) ∧ W7 D = none ∧ Apart (Γs s7) σ D := fun {s7 W7 H7} q => by
      have q1 := q.wipe (own'.map (·.2))
      rw [hw] at q1
      have q2 := q1.unwipe
      rw [show drops0 (own'.map (·.2)) (Γs s7) = Γs s7 from hdr s7] at q2
      have nB : ¬ (inner C (Γs s) σ W3 H3).B D := fun z => by
        rcases z with z | ⟨j, oj, ej⟩
        · exact bD z
        · exact ap' j oj ej
      refine ⟨sat3.outof q2, q2.fr D _ hD3 nB laD, q2.nw D (by show H3 D ≠ none; rw [hD3]; simp) wD3, fun j oj ej => ?_⟩
      obtain ⟨ee, h1, h2⟩ := oj
      cases ee with
      | no => cases h2
      | im c x => cases h2
      | ow c x =>
        obtain ⟨ad, o, e1, e2, e3, e4, e5⟩ := q2.sl j _ h1
        have ea := getD_some e1
        rw [ej] at ea; cases ea
        rcases e3 with e3 | e3
        · rw [show (inner C (Γs s) σ W3 H3).H D = H3 D from rfl, hD3] at e3; cases e3
        · exact nB e3
      | lp => cases h2
      | ln c x => cases h2
    cases bb with
    | false =>
      rw [if_neg Bool.false_ne_true]
      obtain ⟨W7, w7, sat7⟩ := hup (inner C (Γs s) σ W3 H3) sh H0 Cc cl fp s6 xs[i] (hg _ sh H0 Cc cl fp) σ4 W6 H5 sat6
      obtain ⟨b1', b2, b3, b4⟩ := back sat7
      have ww : Same W' W7 := (((G.w).trans w5).trans w6).trans w7
      exact ⟨s6, acc, ys, rest, W7, t2, g2, b2, b3, b4, row.mono ww, Nat.le_succ_of_le hy, w'.trans ww, b1'⟩
    | true =>
      rw [if_pos rfl]
      obtain ⟨y1, t3, t4⟩ := bind_some (show f xs[i] s6 >>= _ = some rest from t2)
      obtain ⟨ys', t5, t6⟩ := bind_some t4
      cases t6
      intro sh H0 Cc cl fp
      refine helt (inner C (Γs s) σ W3 H3) sh H0 Cc cl fp xs[i] s6 y1 σ4 W6 H5 _ sat6 t3 fun yv Γ7 r7 W7 H7 v7 j7 hr7 s7 w7 q7 => ?_
      obtain ⟨s8, e8, wk8⟩ := j7
      rw [hr7] at e8; cases e8
      obtain ⟨W8, w8, sat8⟩ := wk8 σ4 W7 H7 s7
      obtain ⟨b1', b2, b3, b4⟩ := back sat8
      have ww : Same W' W8 := ((((G.w).trans w5).trans w6).trans w7).trans w8
      have row8 := (row.mono ww).append (Row.cons (d.mono w8 q7) .nil)
      refine ⟨acc, b2, ?_, s8, acc ++ [v7], ys ++ [yv], ys', W8, t5, ?_, upd_same, b3, b4, row8, ?_, w'.trans ww, b1'.side cD b3 b4 laD⟩
      · rw [row.length]
        exact Nat.lt_of_lt_of_le (Nat.lt_of_le_of_lt hy hl) hlen
      · rw [g2]; simp
      · simp; omega
  · have ei : i = xs.length := by omega
    subst ei
    rw [List.drop_length] at g1
    have g1 : some (([] : List β), s) = some rest := g1
    cases g1
    refine .inl ⟨stop (Nat.le_refl _), ?_⟩
    have hz : zz = (ys, s) := by rw [g2]; simp
    subst hz
    exact kk ys _ _ W' H' D _ (hk (ys, s)) f2 sat' ((w1.trans w2).trans w') wD' cD hD' ⟨acc, rfl, row⟩ ap' laD
end
end Ty

set_option maxHeartbeats 4000000
namespace Ty
open PySem PySem.Spec PyProof.Rows L2

section
variable {X : Cx} {C : Ct} {ρ α β γ : Type} {Γ : En X.K} {tg elt e a b : Expr} {es : List Expr} {r : Option ρ} {scope : Scope} {own' : List (Str × Nat)} {pos p p2 p3 apos cpos : Pos}
theorem ei_imp {c : Cod X.K α} {J J' : List α → En X.K → Option ρ → Prop} (h : EI X C Γ tg e c r J) (hj : ∀ x Γ' r', J x Γ' r' → J' x Γ' r') : EI X C Γ tg e c r J' := .mk fun z σ W H R s hr k => h z σ W H R s hr fun xs Γ' r' W' H' It j => k xs Γ' r' W' H' It (hj _ _ _ j)
/-- [f x for x in xs] -/
theorem lc_map {c : Cod X.K α} {d : Cod X.K β} {ws : List Nat} {up : En X.K → α → En X.K} {J : List β → En X.K → Option ρ → Prop} (ok : BlkOk X.N X.env.scope scope own')
    (hg : ∀ (C' : Ct) sh H Cc cl fp, AG (bx X scope sh H Cc cl fp) C' tg c ws up)
    (h : EI X C Γ tg e c r fun xs Γ1 r1 => ∃ f k, r1 = mapR f xs >>= k ∧ (∀ ys, J ys (drops (own'.map (·.2)) Γ1) (k ys)) ∧
      (∀ (C' : Ct) sh H Cc cl fp x, EX (bx X scope sh H Cc cl fp) C' (up (drops (own'.map (·.2)) Γ1) x) elt d (f x) fun y Γ2 r2 => r2 = some y ∧ Wk C' Γ2 (up (drops (own'.map (·.2)) Γ1) x)))
    (hws : ∀ i ∈ ws, i ∈ own'.map (·.2) := by decide) (hs : ∀ x, foldedSetIterable e X.env x = pure x := by intro _; rfl) : LC X C Γ elt tg e [] scope d r J := by
  refine lc_G (S := Unit) ok (ei_imp h fun xs Γ1 r1 j => ?_) hg hws hs
  obtain ⟨f, k, e1, hk, hb⟩ := j
  have idm : drops (own'.map (·.2)) (drops (own'.map (·.2)) Γ1) = drops (own'.map (·.2)) Γ1 := drops_idem _ _ _ fun _ h => h
  refine ⟨fun _ => drops (own'.map (·.2)) Γ1, fun _ s => some (true, s), fun x s => f x >>= fun y => some (y, s), (), fun z => k z.1, ?_, ?_, fun _ => idm, fun z => hk z.1, fun C' sh H Cc cl fp x s => ?_, fun C' sh H Cc cl fp x s => ?_⟩
  · rw [e1, lcG_map]
    cases mapR f xs <;> rfl
  · rw [idm]; exact wk_drops' _
  · exact eq_nil ⟨s, rfl, wk_refl⟩
  · refine .mk fun z σ W H' Q sat hr kk => ?_
    obtain ⟨y, e2, e3⟩ := bind_some hr
    refine (hb C' sh H Cc cl fp x).run y σ W H' Q sat e2 fun y' Γ2 r2 W2 H2 v j2 hr2 s2 w2 q2 => ?_
    obtain ⟨e4, wk⟩ := j2
    rw [hr2] at e4; cases e4
    refine kk y Γ2 (some (y, s)) W2 H2 v ⟨s, rfl, ?_⟩ e3 s2 w2 q2
    have q := wk_drops' (C := C') (own'.map (·.2)) (Γ := up (drops (own'.map (·.2)) Γ1) x)
    rw [show drops (own'.map (·.2)) (up (drops (own'.map (·.2)) Γ1) x) = drops (own'.map (·.2)) Γ1 from ((hg C' sh H Cc cl fp).dr _ x _ hws).trans idm] at q
    exact wk.trans q
/-- [f x for x in xs if t x] -/
theorem lc_flt {c : Cod X.K α} {d : Cod X.K β} {ws : List Nat} {up : En X.K → α → En X.K} {J : List β → En X.K → Option ρ → Prop} (ok : BlkOk X.N X.env.scope scope own')
    (hg : ∀ (C' : Ct) sh H Cc cl fp, AG (bx X scope sh H Cc cl fp) C' tg c ws up)
    (h : EI X C Γ tg e c r fun xs Γ1 r1 => ∃ t f k, r1 = fltR t f xs >>= k ∧ (∀ ys, J ys (drops (own'.map (·.2)) Γ1) (k ys)) ∧
      (∀ (C' : Ct) sh H Cc cl fp x, ET (bx X scope sh H Cc cl fp) C' (up (drops (own'.map (·.2)) Γ1) x) a (t x) fun y Γ2 r2 => r2 = some y ∧ Wk C' Γ2 (up (drops (own'.map (·.2)) Γ1) x)) ∧
      (∀ (C' : Ct) sh H Cc cl fp x, EX (bx X scope sh H Cc cl fp) C' (up (drops (own'.map (·.2)) Γ1) x) elt d (f x) fun y Γ2 r2 => r2 = some y ∧ Wk C' Γ2 (up (drops (own'.map (·.2)) Γ1) x)))
    (hws : ∀ i ∈ ws, i ∈ own'.map (·.2) := by decide) (hs : ∀ x, foldedSetIterable e X.env x = pure x := by intro _; rfl) : LC X C Γ elt tg e [a] scope d r J := by
  refine lc_G (S := Unit) ok (ei_imp h fun xs Γ1 r1 j => ?_) hg hws hs
  obtain ⟨t, f, k, e1, hk, ht, hb⟩ := j
  have idm : drops (own'.map (·.2)) (drops (own'.map (·.2)) Γ1) = drops (own'.map (·.2)) Γ1 := drops_idem _ _ _ fun _ h => h
  refine ⟨fun _ => drops (own'.map (·.2)) Γ1, fun x s => t x >>= fun b => some (b, s), fun x s => f x >>= fun y => some (y, s), (), fun z => k z.1, ?_, ?_, fun _ => idm, fun z => hk z.1, fun C' sh H Cc cl fp x s => ?_, fun C' sh H Cc cl fp x s => ?_⟩
  · rw [e1, lcG_flt]
    cases fltR t f xs <;> rfl
  · rw [idm]; exact wk_drops' _
  · refine eq_one (.mk fun z σ W H' Q sat hr kk => ?_)
    obtain ⟨y, e2, e3⟩ := bind_some hr
    refine (ht C' sh H Cc cl fp x).run y σ W H' Q sat e2 fun y' Γ2 r2 W2 H2 j2 hr2 s2 w2 => ?_
    obtain ⟨e4, wk⟩ := j2
    rw [hr2] at e4; cases e4
    exact kk y Γ2 (some (y, s)) W2 H2 ⟨s, rfl, wk⟩ e3 s2 w2
  · refine .mk fun z σ W H' Q sat hr kk => ?_
    obtain ⟨y, e2, e3⟩ := bind_some hr
    refine (hb C' sh H Cc cl fp x).run y σ W H' Q sat e2 fun y' Γ2 r2 W2 H2 v j2 hr2 s2 w2 q2 => ?_
    obtain ⟨e4, wk⟩ := j2
    rw [hr2] at e4; cases e4
    refine kk y Γ2 (some (y, s)) W2 H2 v ⟨s, rfl, ?_⟩ e3 s2 w2 q2
    have q := wk_drops' (C := C') (own'.map (·.2)) (Γ := up (drops (own'.map (·.2)) Γ1) x)
    rw [show drops (own'.map (·.2)) (up (drops (own'.map (·.2)) Γ1) x) = drops (own'.map (·.2)) Γ1 from ((hg C' sh H Cc cl fp).dr _ x _ hws).trans idm] at q
    exact wk.trans q
/-- [f x for x in xs], a state handed on -/
theorem lc_mapS {S : Type} {c : Cod X.K α} {d : Cod X.K β} {ws : List Nat} {up : En X.K → α → En X.K} {J : List β → En X.K → Option ρ → Prop} (ok : BlkOk X.N X.env.scope scope own')
    (hg : ∀ (C' : Ct) sh H Cc cl fp, AG (bx X scope sh H Cc cl fp) C' tg c ws up)
    (h : EI X C Γ tg e c r fun xs Γ1 r1 => ∃ (Γs : S → En X.K), ∃ f s0 k, r1 = mapS f xs s0 >>= k ∧ Wk C Γ1 (Γs s0) ∧ (∀ s, drops (own'.map (·.2)) (Γs s) = Γs s) ∧ (∀ ys, J ys.1 (Γs ys.2) (k ys)) ∧
      (∀ (C' : Ct) sh H Cc cl fp x s, EX (bx X scope sh H Cc cl fp) C' (up (Γs s) x) elt d (f x s) fun y Γ2 r2 => ∃ s2, r2 = some (y, s2) ∧ Wk C' Γ2 (Γs s2)))
    (hws : ∀ i ∈ ws, i ∈ own'.map (·.2) := by decide) (hs : ∀ x, foldedSetIterable e X.env x = pure x := by intro _; rfl) : LC X C Γ elt tg e [] scope d r J := by
  refine lc_G (S := S) ok (ei_imp h fun xs Γ1 r1 j => ?_) hg hws hs
  obtain ⟨Γs, f, s0, k, e1, g0, hdr, hk, hb⟩ := j
  refine ⟨Γs, fun _ s => some (true, s), f, s0, k, ?_, ?_, hdr, hk, fun C' sh H Cc cl fp x s => eq_nil ⟨s, rfl, wk_refl⟩, hb⟩
  · rw [e1, lcG_mapS]
  · rw [hdr]; exact g0

/-! a list that a name owns, by its methods -/
def MtO {δ : Type} (X : Cx) (id : String) (t : TC X.K α) (c : Cod X.K β) (d : Cod X.K δ) (g : List β → α → Option (δ × List β)) : Prop :=
  ∃ rr : V → List V → Hp → VK → Prop, MtM X id rr ∧ ∀ W H l vs ws ys x z (Q : VK), Same W H → H l = some (.lst vs) → Row c W vs ys → t.rp W ws x → g ys x = some z →
    (∀ w vs', d.rp W w z.1 → Row c W vs' z.2 → Q w (upd H l (.lst vs'))) → rr (.ref l) ws H Q
theorem Sat.changed {σ : L2.St} {W H : Hp} {i : Nat} {c : Cod X.K α} {ys zs : List α} {l : Addr} {vs' : List V} (s : Sat C Γ σ W H) (hi : Γ[i]? = some (.ow (lstC c) ys)) (e : σ[i]? = some (some (.ref l))) (h : Row c W vs' zs) :
    Sat C (Γ.set i (.ow (lstC c) zs)) σ W (upd H l (.lst vs')) := by
  obtain ⟨a, o, e1, e2, e3, e4, e5⟩ := s.sl i _ hi
  rw [e] at e1
  have ea := Option.some.inj (show some (V.ref l) = some (V.ref a) from e1)
  injection ea with ea
  subst ea
  exact s.turn hi e (Same.refl _) (fun b u q => by rw [upd_ne (ne_of_none q e2)]; exact s.sub b u q) (fun _ _ q => q) (fun b u hb q => by rw [upd_ne hb]; exact q) upd_same ⟨vs', rfl, h⟩
theorem ex_own {δ : Type} {t : TC X.K α} {c : Cod X.K β} {d : Cod X.K δ} {g : List β → α → Option (δ × List β)} {J : δ → En X.K → Option ρ → Prop} {n m : Str} {id : String} {ys : List β} (i : Nat) (o : MtO X id t c d g)
    (slot : Slot "list" m id) (hty : typeOf (.builtin id) = pure (.type "method_descriptor"))
    (h : EA X C Γ (e :: es) t r fun x Γ1 r1 => Γ1[i]? = some (.ow (lstC c) ys) ∧ ∃ k, r1 = g ys x >>= k ∧ ∀ z, J z.1 (Γ1.set i (.ow (lstC c) z.2)) (k z))
    (hN : X.N[i]? = some n := by rfl) (hΓ : Γ[i]? = some (.ow (lstC c) ys) := by rfl) (hv : Vis X.env.scope n := by first | exact Or.inl rfl | exact Or.inr (Or.inl rfl) | exact Or.inr (Or.inr rfl)) (hd : (n == ("__debug__" : Str)) = false := by decide) (hcd : (n == ("__classdict__" : Str)) = false := by decide)
    (hbase : attributeBase (.Name n p) m X.env (eval (.Name n p) X.env) = eval (.Name n p) X.env := by rfl)
    (hfew : ((backTo cpos (starEach (e :: es) X.env)).all (fun x => !x.1) && (backToKw cpos (keywordEach [] X.env)).all (fun x => x.1.isSome)
      && decide ((e :: es).length + ([] : List Keyword).length + (if ([] : List Keyword).isEmpty then 0 else 1) < 30)) = true := by rfl)
    (hline : (apos.endLine == cpos.line) = true := by rfl) (hs : starEach (e :: es) X.env = (false, eval e X.env) :: starEach es X.env := by rfl) (hplain : (backTo cpos (starEach es X.env)).any (·.1) = false := by rfl) :
    EX X C Γ (.Call (.Attribute (.Name n p) m apos) (e :: es) [] cpos) d r J := .mk fun z σ W H Q s hr kk => by
  obtain ⟨rr, hm, hf⟩ := o
  refine w_pe (pe_bm PySem.F.plainAttrs_list slot hty hm (pe_var hN hv hd hcd) pa_w hbase hfew hline hs hplain) ?_
  obtain ⟨ad, o, e1, e4, vs, rfl, row⟩ := s.seen hΓ
  refine ⟨_, e1, .inl ⟨rfl, vs, SqL.of e4⟩, h z σ W H _ s hr fun x Γ1 r1 W1 H1 ws j1 hr1 s1 w1 q1 => ?_⟩
  obtain ⟨g1, k2, e2, j2⟩ := j1
  rw [e2] at hr1
  obtain ⟨t2, et, ht⟩ := bind_some hr1
  obtain ⟨ad', o', f1, f4, vs', rfl, row'⟩ := s1.seen g1
  rw [e1] at f1; cases f1
  refine hf W1 H1 ad vs' ws ys x t2 _ s1.sub f4 row' q1 et fun w vs2 q2 row2 => ?_
  exact kk t2.1 _ _ W1 _ w (j2 t2) ht (s1.changed g1 e1 row2) w1 q2
theorem ex_own0 {δ : Type} {c : Cod X.K β} {d : Cod X.K δ} {g : List β → Unit → Option (δ × List β)} {J : δ → En X.K → Option ρ → Prop} {n m : Str} {id : String} {ys : List β} (i : Nat) (o : MtO X id tc0 c d g)
    (slot : Slot "list" m id) (hty : typeOf (.builtin id) = pure (.type "method_descriptor"))
    (h : ∃ k, r = g ys () >>= k ∧ ∀ z, J z.1 (Γ.set i (.ow (lstC c) z.2)) (k z))
    (hN : X.N[i]? = some n := by rfl) (hΓ : Γ[i]? = some (.ow (lstC c) ys) := by rfl) (hv : Vis X.env.scope n := by first | exact Or.inl rfl | exact Or.inr (Or.inl rfl) | exact Or.inr (Or.inr rfl)) (hd : (n == ("__debug__" : Str)) = false := by decide) (hcd : (n == ("__classdict__" : Str)) = false := by decide)
    (hbase : attributeBase (.Name n p) m X.env (eval (.Name n p) X.env) = eval (.Name n p) X.env := by rfl) (hline : (apos.endLine == cpos.line) = true := by rfl) :
    EX X C Γ (.Call (.Attribute (.Name n p) m apos) [] [] cpos) d r J := .mk fun z σ W H Q s hr kk => by
  obtain ⟨rr, hm, hf⟩ := o
  refine w_pe (pe_bm0 PySem.F.plainAttrs_list slot hty hm (pe_var hN hv hd hcd) hbase hline) ?_
  obtain ⟨ad, o, e1, e4, vs, rfl, row⟩ := s.seen hΓ
  obtain ⟨k2, e2, j2⟩ := h
  rw [e2] at hr
  obtain ⟨t2, et, ht⟩ := bind_some hr
  refine ⟨_, e1, .inl ⟨rfl, vs, SqL.of e4⟩, hf W H ad vs [] ys () t2 _ s.sub e4 row rfl et fun w vs2 q2 row2 => ?_⟩
  exact kk t2.1 _ _ W _ w (j2 t2) ht (s.changed hΓ e1 row2) (Same.refl _) q2
def pushR (ys : List β) (x : β) : Option (Unit × List β) := if ys.length < 16000000 then some ((), ys ++ [x]) else none
theorem m_append {c : Cod X.K β} : MtO X "list.append" (tc1 c) c cNon pushR := ⟨_, mt_append, fun W H l vs ws ys x z Q sb hl row q1 e k => by
  obtain ⟨v, rfl, q⟩ := q1
  unfold pushR at e
  split at e
  · rename_i hc
    cases e
    exact ⟨l, vs, v, rfl, rfl, hl, by rw [row.length]; exact Nat.lt_trans hc (by decide), k _ _ rfl (row.append (.cons q .nil))⟩
  · cases e⟩
def extR (ys zs : List β) : Option (Unit × List β) := if ys.length + zs.length ≤ 16000000 then some ((), ys ++ zs) else none
theorem m_extend {c : Cod X.K β} : MtO X "list.extend" (tc1 (cLst c)) c cNon extR := ⟨_, mt_extend, fun W H l vs ws ys x z Q sb hl row q1 e k => by
  obtain ⟨v, rfl, ad, us, rfl, h2, row2⟩ := q1
  unfold extR at e
  split at e
  · rename_i hc
    cases e
    exact ⟨l, ad, vs, us, rfl, rfl, hl, sb _ _ h2, by rw [row.length, row2.length]; exact Nat.le_trans hc (by decide), k _ _ rfl (row.append row2)⟩
  · cases e⟩
def popR (ys : List β) (i : Int) : Option (β × List β) := (ixN ys.length i).bind fun j => (ys[j]?).map fun x => (x, ys.eraseIdx j)
theorem m_popAt {c : Cod X.K β} : MtO X "list.pop" (tc1 cInt) c c fun ys i => if ys.length ≤ 16777216 then popR ys i else none := ⟨_, mt_popAt, fun W H l vs ws ys x z Q sb hl row q1 e k => by
  obtain ⟨v, rfl, q⟩ := q1
  cases q
  have e : (if ys.length ≤ 16777216 then popR ys x else none) = some z := e
  split at e
  · rename_i hl2
    unfold popR at e
    cases hj : ixN ys.length x with
    | none => rw [hj] at e; cases e
    | some j =>
      rw [hj] at e
      have e : (ys[j]?).map (fun x => (x, ys.eraseIdx j)) = some z := e
      obtain ⟨y, hy, ez⟩ := Option.map_eq_some_iff.mp e
      subst ez
      obtain ⟨w, h1, h2⟩ := row.get hy
      obtain ⟨q1, q2, q3, q4⟩ := ixN_seq hj
      exact ⟨l, vs, x, j, w, rfl, rfl, hl, by omega, by omega, by rw [row.length]; exact q1, h1, k _ _ h2 (row.erase j)⟩
  · cases e⟩
def popL (ys : List β) : Unit → Option (β × List β) := fun _ => (ys[ys.length - 1]?).map fun x => (x, ys.dropLast)
theorem Row.dropLast {K : Frag} {c : Cod K α} {H : Hp} {vs : List V} {xs : List α} (h : Row c H vs xs) : Row c H vs.dropLast xs.dropLast := by
  rw [List.dropLast_eq_take, List.dropLast_eq_take, h.length]
  exact h.take _
theorem m_pop {c : Cod X.K β} : MtO X "list.pop" tc0 c c popL := ⟨_, mt_pop, fun W H l vs ws ys x z Q sb hl row q1 e k => by
  cases q1
  obtain ⟨y, hy, ez⟩ := Option.map_eq_some_iff.mp e
  subst ez
  obtain ⟨w, h1, h2⟩ := row.get hy
  exact ⟨l, vs, w, rfl, rfl, hl, by rw [row.length]; exact h1, k _ _ h2 row.dropLast⟩⟩
/-- xs[i] = v, xs owned -/
def setR (ys : List β) (i : Int) (x : β) : Option (List β) := (ixN ys.length i).map fun j => ys.set j x
theorem gs_setI {ρ' : Type} {r : Option β} {T : Go X.K ρ' β} {c : Cod X.K α} {n : Str} (i : Nat)
    (h : EX X C Γ e c r fun x Γ1 r1 => (∃ ys, Γ1[i]? = some (.ow (lstC c) ys)) ∧ EX X C Γ1 b cInt r1 fun j Γ2 r2 => ∃ ys, Γ2[i]? = some (.ow (lstC c) ys) ∧ ∃ k, r2 = setR ys j x >>= k ∧ ∀ zs, T.nx (Γ2.set i (.ow (lstC c) zs)) (k zs))
    (hN : X.N[i]? = some n := by rfl) (hv : Vis X.env.scope n := by first | exact Or.inl rfl | exact Or.inr (Or.inl rfl) | exact Or.inr (Or.inr rfl)) (hd : (n == ("__debug__" : Str)) = false := by decide) (hcd : (n == ("__classdict__" : Str)) = false := by decide)
    (ha : ∀ v, assign (.Subscript (.Name n p) b p2) X.env v = (do
      let ov ← holding [v] (eval (.Name n p) X.env)
      let iv ← holding [v, ov] (eval b X.env)
      standAt p2
      holding [v, ov, iv] (setItem ov iv v)
      release [v, ov, iv] []) := by intro _; rfl)
    (hs : swapsWithSole [.Subscript (.Name n p) b p2] e pos.line X.env = pure false := by rfl) (hw : swappedStores [.Subscript (.Name n p) b p2] e X.env = pure none := by rfl)
    (h1 : (assignEach [.Subscript (.Name n p) b p2] X.env).map (·.2) = [assign (.Subscript (.Name n p) b p2) X.env] := by rfl) :
    GK X C (wpS X (.Assign [.Subscript (.Name n p) b p2] e pos)) Γ r T := GK.mk fun z σ W H D s hr kn kb kc kr => by
  refine w_ps (ps_asg pe_w (pg_sub (pe_var hN hv hd hcd) pe_w set_list ha) hs hw h1) (h z σ W H _ s hr fun x Γ1 r1 W1 H1 v j1 hr1 s1 w1 q1 => ?_)
  obtain ⟨⟨ys0, g1⟩, j1⟩ := j1
  obtain ⟨ad, o, e1, e4, vs, rfl, row⟩ := s1.seen g1
  refine ⟨_, e1, j1 z σ W1 H1 _ s1 hr1 fun jj Γ2 r2 W2 H2 v2 j2 hr2 s2 w2 q2 => ?_⟩
  obtain ⟨ys, g2, k2, e2, j2⟩ := j2
  rw [e2] at hr2
  obtain ⟨zs, et, ht⟩ := bind_some hr2
  obtain ⟨ad', o', f1, f4, vs', rfl, row'⟩ := s2.seen g2
  rw [e1] at f1; cases f1
  obtain ⟨jn, hj, ez⟩ := Option.map_eq_some_iff.mp et
  subst ez
  cases q2
  exact ⟨ad, vs', jj, jn, rfl, rfl, f4, by rw [row'.length]; exact hj, kn _ _ σ W2 _ (j2 _) ht (s2.changed g2 e1 (row'.set (c.mono w2 q1) jn)) (w1.trans w2)⟩

/-! slices, sums of tuples, being in -/
def sliceO (n : Nat) (lo hi : Option Int) : Nat × Nat := (HT.sIx n 0 lo, HT.sIx n n hi - HT.sIx n 0 lo)
def cutR (xs : List α) (lo hi : Option Int) : List α := (xs.drop (HT.sIx xs.length 0 lo)).take (HT.sIx xs.length xs.length hi - HT.sIx xs.length 0 lo)
theorem Row.cut {K : Frag} {c : Cod K α} {H : Hp} {vs : List V} {xs : List α} (h : Row c H vs xs) (lo hi : Option Int) : Row c H (cutV vs lo hi) (cutR xs lo hi) := by
  unfold cutV cutR
  rw [h.length]
  exact (h.drop _).take _
end
def wpo (X : Cx) (o : Option Expr) : TO := fun σ H Q => ∀ pins s, Inv X pins σ H s → wpAny (model X.prog X.w) X.A (evalPart o X.env) (fun u s' => ∃ o H', Inv X pins σ H' s' ∧ IsPart u o ∧ Q o H') X.xe s
section
variable {X : Cx} {C : Ct} {ρ α β γ : Type} {Γ : En X.K} {tg elt e a b : Expr} {es : List Expr} {r : Option ρ} {pos p p2 p3 apos cpos : Pos} {lo hi o : Option Expr}
theorem po_w : PO X o (wpo X o) := ⟨fun pins s _ _ _ I h => h pins s I⟩
/-- an optional part of a slice -/
def EO (X : Cx) (C : Ct) {ρ : Type} (Γ : En X.K) (o : Option Expr) (r : Option ρ) (J : Option Int → En X.K → Option ρ → Prop) : Prop :=
  ∀ (z : ρ) σ W H (Q : Option Int → Hp → Prop), Sat C Γ σ W H → r = some z →
    (∀ x Γ' r' W' H', J x Γ' r' → r' = some z → Sat C Γ' σ W' H' → Same W W' → Q x H') → wpo X o σ H Q
theorem eo_none {J : Option Int → En X.K → Option ρ → Prop} (h : J none Γ r) : EO X C Γ none r J := fun z σ W H Q s hr k pins sh I => po_none.run pins sh σ H Q I (k none Γ r W H h hr s (Same.refl _))
theorem eo_some {J : Option Int → En X.K → Option ρ → Prop} (h : EX X C Γ e cInt r fun i Γ1 r1 => J (some i) Γ1 r1) : EO X C Γ (some e) r J := fun z σ W H Q s hr k pins sh I =>
  (po_some pe_w).run pins sh σ H Q I (h z σ W H _ s hr fun i Γ1 r1 W1 H1 v j1 hr1 s1 w1 q1 => ⟨i, q1, k _ Γ1 r1 W1 H1 j1 hr1 s1 w1⟩)
theorem ex_slS {c : Cod X.K α} {J : List α → En X.K → Option ρ → Prop} (h : EX X C Γ e (cSeq c) r fun x Γ1 r1 => EO X C Γ1 lo r1 fun l Γ2 r2 => EO X C Γ2 hi r2 fun u Γ3 r3 => J (cutR x l u) Γ3 r3) :
    EX X C Γ (.Subscript e (.Slice lo hi none p2) pos) (cSeq c) r J := .mk fun z σ W H Q s hr k =>
  w_pe (pe_slice sl_tupA pe_w po_w po_w) (h z σ W H _ s hr fun x Γ1 r1 W1 H1 v j1 hr1 s1 w1 q1 => j1 z σ W1 H1 _ s1 hr1 fun l Γ2 r2 W2 H2 j2 hr2 s2 w2 => j2 z σ W2 H2 _ s2 hr2 fun u Γ3 r3 W3 H3 j3 hr3 s3 w3 => by
    obtain ⟨ad, vs, rfl, h2, h3⟩ := q1
    have h2' := Same.tup w3 (Same.tup w2 h2)
    have row := ((h3.mono w2).mono w3).cut l u
    have ww := (w1.trans w2).trans w3
    refine ⟨ad, vs, rfl, Same.tup s3.sub h2', fun hw => ?_, fun hw pp hp => ?_⟩
    · have e : cutV vs l u = vs := by unfold cutV; rw [hw.1, hw.2]; simp
      rw [e] at row
      exact k _ Γ3 r3 W3 H3 _ j3 hr3 s3 ww ⟨ad, vs, rfl, h2', row⟩
    · have G := Grow.new (o := .tup (cutV vs l u)) s3.sub hp
      exact k _ Γ3 r3 _ _ _ j3 hr3 (s3.grow G) (ww.trans G.w) ⟨pp, _, rfl, SqT.of upd_same, row.mono G.w⟩)
theorem ef_slL {c : Cod X.K α} {J : List α → En X.K → Option ρ → Prop} (h : EX X C Γ e (cLst c) r fun x Γ1 r1 => EO X C Γ1 lo r1 fun l Γ2 r2 => EO X C Γ2 hi r2 fun u Γ3 r3 => J (cutR x l u) Γ3 r3) :
    EF X C Γ (.Subscript e (.Slice lo hi none p2) pos) (lstC c) r J := .mk fun z σ W H Q s hr k =>
  w_pe (pe_slice sl_list pe_w po_w po_w) (h z σ W H _ s hr fun x Γ1 r1 W1 H1 v j1 hr1 s1 w1 q1 => j1 z σ W1 H1 _ s1 hr1 fun l Γ2 r2 W2 H2 j2 hr2 s2 w2 => j2 z σ W2 H2 _ s2 hr2 fun u Γ3 r3 W3 H3 j3 hr3 s3 w3 => by
    obtain ⟨ad, vs, rfl, h2, h3⟩ := q1
    have row := ((h3.mono w2).mono w3).cut l u
    have ww := (w1.trans w2).trans w3
    refine ⟨ad, vs, rfl, SqL.of (s3.sub _ _ (w3 _ _ (w2 _ _ h2))), fun pp hp => ?_⟩
    obtain ⟨s4, wp, cp, ap, la⟩ := s3.fresh (o := .lst (cutV vs l u)) hp
    exact k _ Γ3 r3 W3 _ pp _ j3 hr3 s4 ww wp cp upd_same ⟨_, rfl, row⟩ ap la)
def catR (x y : List α) : Option (List α) := if x.length + y.length ≤ 16000000 then some (x ++ y) else none
theorem o_catS {c : Cod X.K α} : Op2 X (binaryOp .Add) (cSeq c) (cSeq c) (cSeq c) catR := ⟨_, op_catA, fun W H x y v u z Q sb h1 h2 e k => by
  obtain ⟨ad, vs, rfl, a2, a3⟩ := h1
  obtain ⟨bd, ws, rfl, b2, b3⟩ := h2
  unfold catR at e
  split at e
  · rename_i hc
    cases e
    refine ⟨ad, bd, vs, ws, rfl, rfl, Same.tup sb a2, Same.tup sb b2, by rw [a3.length, b3.length]; exact Nat.le_trans hc (by decide), fun hx => ?_, fun _ hy => ?_, fun _ _ pp hp => ?_⟩
    · subst hx; cases a3; exact k _ W H (Grow.refl sb) ⟨bd, ws, rfl, b2, b3⟩
    · subst hy; cases b3; rw [List.append_nil] at k; exact k _ W H (Grow.refl sb) ⟨ad, vs, rfl, a2, a3⟩
    · have G := Grow.new (o := .tup (vs ++ ws)) sb hp
      exact k _ _ _ G ⟨pp, _, rfl, SqT.of upd_same, (a3.append b3).mono G.w⟩
  · cases e⟩
theorem o_catL {c : Cod X.K α} : Op2 X (binaryOp .Add) (cLst c) (cLst c) (cLst c) catR := ⟨_, op_cat, fun W H x y v u z Q sb h1 h2 e k => by
  obtain ⟨ad, vs, rfl, a2, a3⟩ := h1
  obtain ⟨bd, ws, rfl, b2, b3⟩ := h2
  unfold catR at e
  split at e
  · rename_i hc
    cases e
    refine ⟨ad, bd, vs, ws, rfl, rfl, sb _ _ a2, sb _ _ b2, by rw [a3.length, b3.length]; exact Nat.le_trans hc (by decide), fun pp hp => ?_⟩
    have G := Grow.new (o := .lst (vs ++ ws)) sb hp
    exact k _ _ _ G ⟨pp, _, rfl, upd_same, (a3.append b3).mono G.w⟩
  · cases e⟩
/-- values that == tells apart as Lean's = does -/
structure Flat {K : Frag} {α : Type} [DecidableEq α] (c : Cod K α) : Prop where
  fl : ∀ {H v x}, c.rp H v x → flatV v = true
  eq : ∀ {H H' v u x y}, c.rp H v x → c.rp H' u y → eqV v u = decide (x = y)
theorem flatI {K : Frag} : Flat (cInt (K := K)) := ⟨fun h => by cases h; rfl, fun h h' => by cases h; cases h'; simp [eqV, Bool.beq_eq_decide_eq]⟩
theorem flatS {K : Frag} : Flat (cStr (K := K)) := ⟨fun h => by cases h; rfl, fun h h' => by cases h; cases h'; simp [eqV, Bool.beq_eq_decide_eq]⟩
theorem flatB {K : Frag} : Flat (cBool (K := K)) := ⟨fun h => by cases h; rfl, fun h h' => by cases h; cases h'; simp [eqV, Bool.beq_eq_decide_eq]⟩
theorem Row.flat {K : Frag} [DecidableEq α] {c : Cod K α} {H : Hp} (f : Flat c) : ∀ {vs : List V} {xs : List α}, Row c H vs xs → vs.all flatV = true
  | _, _, .nil => rfl
  | _, _, .cons h t => by rw [List.all_cons, f.fl h, Row.flat f t]; rfl
theorem Row.inV {K : Frag} [DecidableEq α] {c : Cod K α} {H H' : Hp} {v : V} {x : α} (f : Flat c) (hx : c.rp H' v x) : ∀ {vs : List V} {xs : List α}, Row c H vs xs → L2.inV v vs = decide (x ∈ xs)
  | _, _, .nil => by simp [L2.inV]
  | _, _, .cons (x := y) h t => by
    have ih := Row.inV f hx t
    unfold L2.inV at ih ⊢
    rw [List.any_cons, ih, f.eq h hx]
    by_cases e : y = x
    · simp [e]
    · have : ¬ x = y := fun z => e z.symm
      simp [e, this]
theorem o_inS [DecidableEq α] {c : Cod X.K α} (f : Flat c) : Op2 X (compareOp .In) c (cSeq c) cBool fun x y => some (decide (x ∈ y)) := ⟨_, op_in_seq, fun W H x y v u z Q sb h1 h2 e k => by
  obtain ⟨ad, vs, rfl, a2, a3⟩ := h2; cases e
  exact ⟨ad, vs, rfl, .inr (Same.tup sb a2), f.fl h1, a3.flat f, by rw [a3.inV f h1]; exact k _ W H (Grow.refl sb) rfl⟩⟩
theorem o_inL [DecidableEq α] {c : Cod X.K α} (f : Flat c) : Op2 X (compareOp .In) c (cLst c) cBool fun x y => some (decide (x ∈ y)) := ⟨_, op_in_seq, fun W H x y v u z Q sb h1 h2 e k => by
  obtain ⟨ad, vs, rfl, a2, a3⟩ := h2; cases e
  exact ⟨ad, vs, rfl, .inl (SqL.of (sb _ _ a2)), f.fl h1, a3.flat f, by rw [a3.inV f h1]; exact k _ W H (Grow.refl sb) rfl⟩⟩
theorem o_niS [DecidableEq α] {c : Cod X.K α} (f : Flat c) : Op2 X (compareOp .NotIn) c (cSeq c) cBool fun x y => some (!decide (x ∈ y)) := ⟨_, op_notIn_seq, fun W H x y v u z Q sb h1 h2 e k => by
  obtain ⟨ad, vs, rfl, a2, a3⟩ := h2; cases e
  exact ⟨ad, vs, rfl, .inr (Same.tup sb a2), f.fl h1, a3.flat f, by rw [a3.inV f h1]; exact k _ W H (Grow.refl sb) rfl⟩⟩
theorem o_niL [DecidableEq α] {c : Cod X.K α} (f : Flat c) : Op2 X (compareOp .NotIn) c (cLst c) cBool fun x y => some (!decide (x ∈ y)) := ⟨_, op_notIn_seq, fun W H x y v u z Q sb h1 h2 e k => by
  obtain ⟨ad, vs, rfl, a2, a3⟩ := h2; cases e
  exact ⟨ad, vs, rfl, .inl (SqL.of (sb _ _ a2)), f.fl h1, a3.flat f, by rw [a3.inV f h1]; exact k _ W H (Grow.refl sb) rfl⟩⟩
/-- a constant of the module -/
theorem ex_glob {c : Cod X.K α} {x : α} {n : Str} {v : V} {u : Value} {J : α → En X.K → Option ρ → Prop} (hm : X.mg n = some u) (rv : RelV v u) (hc : ∀ W, c.rp W v x) (hJ : J x Γ r) (hg : Gl X n := by rfl) (hd : (n == ("__debug__" : Str)) = false := by decide) :
    EX X C Γ (.Name n p) c r J := .mk fun z σ W H Q s hr k => w_pe (pe_glob hg hm rv hd) (k x Γ r W H v hJ hr s (Same.refl _) (hc W))
/-- xs.index(x) -/
def idxR [DecidableEq α] (xs : List α) (x : α) : Option Int := if x ∈ xs then some ((xs.idxOf x : Nat) : Int) else none
theorem idxOf_spec [DecidableEq α] {x : α} : ∀ {xs : List α}, x ∈ xs → xs[xs.idxOf x]? = some x ∧ ∀ m, m < xs.idxOf x → xs[m]? ≠ some x
  | [], h => by cases h
  | y :: ys, h => by
    by_cases e : y = x
    · subst e; simp
    · have hm : x ∈ ys := (List.mem_cons.mp h).resolve_left fun z => e z.symm
      obtain ⟨h1, h2⟩ := idxOf_spec hm
      have eb : (y == x) = false := by simp [e]
      rw [List.idxOf_cons, eb]
      refine ⟨by simpa using h1, fun m hm => ?_⟩
      cases m with
      | zero => simp [e]
      | succ m => simpa using h2 m (by simpa using hm)
theorem ex_idxL [DecidableEq α] {c : Cod X.K α} (f : Flat c) {J : Int → En X.K → Option ρ → Prop}
    (h : EX X C Γ a (cLst c) r fun xs Γ1 r1 => EX X C Γ1 e c r1 fun x Γ2 r2 => ∃ k, r2 = idxR xs x >>= k ∧ ∀ z, J z Γ2 (k z))
    (hbase : attributeBase a "index" X.env (eval a X.env) = eval a X.env := by rfl)
    (hfew : ((backTo cpos (starEach [e] X.env)).all (fun x => !x.1) && (backToKw cpos (keywordEach [] X.env)).all (fun x => x.1.isSome)
      && decide ([e].length + ([] : List Keyword).length + (if ([] : List Keyword).isEmpty then 0 else 1) < 30)) = true := by rfl)
    (hline : (apos.endLine == cpos.line) = true := by rfl) (hs : starEach [e] X.env = (false, eval e X.env) :: starEach [] X.env := by rfl) (hplain : (backTo cpos (starEach [] X.env)).any (·.1) = false := by rfl) :
    EX X C Γ (.Call (.Attribute a "index" apos) [e] [] cpos) cInt r J := .mk fun z σ W H Q s hr k =>
  w_pe (pe_bm PySem.F.plainAttrs_list PySem.F.slot_list_index PySem.F.type_list_index mt_index pe_w (pa_cons pe_w pa_nil hs) hbase hfew hline hs hplain) (h z σ W H _ s hr fun xs Γ1 r1 W1 H1 v j1 hr1 s1 w1 q1 => by
    obtain ⟨ad, vs, rfl, h2, h3⟩ := q1
    refine ⟨.inl ⟨rfl, vs, SqL.of (s1.sub _ _ h2)⟩, j1 z σ W1 H1 _ s1 hr1 fun x Γ2 r2 W2 H2 u j2 hr2 s2 w2 q2 => ?_⟩
    obtain ⟨k2, e2, j2⟩ := j2
    rw [e2] at hr2
    obtain ⟨t, et, ht⟩ := bind_some hr2
    unfold idxR at et
    split at et
    · rename_i hm
      cases et
      obtain ⟨g1, g2⟩ := idxOf_spec hm
      have row := h3.mono w2
      obtain ⟨zv, f1, f2⟩ := row.get g1
      refine ⟨ad, vs, u, xs.idxOf x, zv, rfl, rfl, SqL.of (s2.sub _ _ (w2 _ _ h2)), f.fl q2, row.flat f, f1, by rw [f.eq f2 q2]; simp, fun m z' hm hz => ?_, k _ Γ2 _ W2 H2 _ (j2 _) ht s2 (w1.trans w2) rfl⟩
      obtain ⟨y, y1, y2⟩ := row.get' hz
      rw [f.eq y2 q2]
      exact decide_eq_false fun ey => g2 m hm (by rw [y1, ey])
    · cases et)
/-- T.index(x), T a constant of the module, texts -/
theorem ex_idxK {ys : List Str} {n : Str} {ad : Addr} {o : Obj} {J : Int → En X.K → Option ρ → Prop} (hm : X.mg n = some (.ref ad)) (hk : ∀ W, SqT X.K W ad (ys.map V.str)) (ho : X.K.lookup ad = some o ∧ o.cls = .type "tuple" ∧ o.dict = none)
    (h : EX X C Γ e cStr r fun x Γ2 r2 => ∃ k, r2 = idxR ys x >>= k ∧ ∀ z, J z Γ2 (k z)) (hg : Gl X n := by rfl) (hd : (n == ("__debug__" : Str)) = false := by decide)
    (hbase : attributeBase (.Name n p) "index" X.env (eval (.Name n p) X.env) = eval (.Name n p) X.env := by rfl)
    (hfew : ((backTo cpos (starEach [e] X.env)).all (fun x => !x.1) && (backToKw cpos (keywordEach [] X.env)).all (fun x => x.1.isSome)
      && decide ([e].length + ([] : List Keyword).length + (if ([] : List Keyword).isEmpty then 0 else 1) < 30)) = true := by rfl)
    (hline : (apos.endLine == cpos.line) = true := by rfl) (hs : starEach [e] X.env = (false, eval e X.env) :: starEach [] X.env := by rfl) (hplain : (backTo cpos (starEach [] X.env)).any (·.1) = false := by rfl) :
    EX X C Γ (.Call (.Attribute (.Name n p) "index" apos) [e] [] cpos) cInt r J := .mk fun z σ W H Q s hr k =>
  w_pe (pe_bm PySem.F.plainAttrs_tuple PySem.F.slot_tuple_index PySem.F.type_tuple_index mt_tup_index (pe_glob (v := .ref ad) hg hm rfl hd) (pa_cons pe_w pa_nil hs) hbase hfew hline hs hplain)
    ⟨.inr (.inl ⟨rfl, o, ho⟩), h z σ W H _ s hr fun x Γ2 r2 W2 H2 u j2 hr2 s2 w2 q2 => by
    obtain ⟨k2, e2, j2⟩ := j2
    rw [e2] at hr2
    obtain ⟨t, et, ht⟩ := bind_some hr2
    unfold idxR at et
    split at et
    · rename_i hm
      cases et
      cases q2
      obtain ⟨g1, g2⟩ := idxOf_spec hm
      exact ⟨ad, ys, x, ys.idxOf x, rfl, rfl, hk H2, g1, g2, k _ Γ2 _ W2 H2 _ (j2 _) ht s2 w2 rfl⟩
    · cases et⟩
end
end Ty

set_option maxHeartbeats 4000000
namespace Ty
open PySem PySem.Spec PyProof.Rows L2

/-! ### defs -/
section
variable {K : Frag}
structure PEn {α : Type} (t : TC K α) (en : α → En K) : Prop where
  len : ∀ x, (en x).length = t.n
  ok : ∀ {W : Hp} {vs : List V} {x : α}, t.rp W vs x → ∀ (i : Nat) (e : Ent K), (en x)[i]? = some e → ∃ (γ : Type) (c : Cod K γ) (y : γ) (v : V), e = .im c y ∧ vs[i]? = some v ∧ c.rp W v y
theorem pen0 : PEn (K := K) tc0 fun _ => [] := ⟨fun _ => rfl, fun _ i e h => by simp at h⟩
theorem pen1 {α : Type} {c : Cod K α} : PEn (tc1 c) fun x => [.im c x] := ⟨fun _ => rfl, fun ⟨v, h, q⟩ i e he => by
  cases i with
  | zero => simp at he; exact ⟨_, c, _, v, he.symm, by rw [h]; rfl, q⟩
  | succ i => simp at he⟩
theorem penC {α β : Type} {c : Cod K α} {t : TC K β} {en : β → En K} (h : PEn t en) : PEn (tcC c t) fun x => .im c x.1 :: en x.2 := ⟨fun x => by simp [h.len, tcC], fun ⟨v, r, hv, q, q2⟩ i e he => by
  cases i with
  | zero => simp at he; exact ⟨_, c, _, v, he.symm, by rw [hv]; rfl, q⟩
  | succ i =>
    obtain ⟨γ, d, y, w, e1, e2, e3⟩ := h.ok q2 i e (by simpa using he)
    exact ⟨γ, d, y, w, e1, by rw [hv]; simpa using e2, e3⟩⟩
theorem start_get {N : List Str} {vs : List V} {i : Nat} {v : V} (h : vs[i]? = some v) : (start N vs)[i]? = some (some v) := by
  unfold L2.start
  have hi : i < vs.length := (List.getElem?_eq_some_iff.mp h).1
  rw [List.getElem?_append_left (by simpa using hi), List.getElem?_map, h]
  rfl
theorem start_sat {α : Type} {t : TC K α} {en : α → En K} {W H : Hp} {vs : List V} {x : α} {N : List Str} {m : Nat} (hp : PEn t en) (q : t.rp W vs x) (sb : Same W H) :
    Sat ⟨W, H, fun _ => False, none⟩ (en x ++ List.replicate m .no) (start N vs) W H := by
  have ent : ∀ (i : Nat) (e : Ent K), (en x ++ List.replicate m .no)[i]? = some e → e = .no ∨ ∃ (γ : Type) (c : Cod K γ) (y : γ) (v : V), e = .im c y ∧ vs[i]? = some v ∧ c.rp W v y := fun i e h => by
    by_cases hi : i < (en x).length
    · rw [List.getElem?_append_left hi] at h
      exact .inr (hp.ok q i e h)
    · rw [List.getElem?_append_right (by omega), List.getElem?_replicate] at h
      have he : e = .no := by split at h <;> simp_all
      exact .inl he
  have no : ∀ i, ¬ own (en x ++ List.replicate m .no) i := fun i ⟨e, h1, h2⟩ => by
    rcases ent i e h1 with rfl | ⟨γ, c, y, v, rfl, _⟩ <;> cases h2
  refine ⟨fun i e h => ?_, fun i j a _ hi => absurd hi (no i), sb, Same.refl _, fun i a h => (by cases h), fun a o h _ _ => h, fun _ h => h, fun _ _ h => h, fun a h => by rcases h with h | h; exact h.elim; cases h⟩
  rcases ent i e h with rfl | ⟨γ, c, y, v, rfl, h2, h3⟩
  · trivial
  · exact ⟨v, by rw [start_get h2]; rfl, h3⟩
theorem start_satL {α τ : Type} {t : TC K α} {en : α → En K} {ce : Cel K τ} {tp : τ} {W H : Hp} {a : Addr} {o : HO} {vs : List V} {x : α} {N : List Str} {m : Nat} (hp : PEn t en) (q : t.rp W vs x) (sb : Same W H) (wa : W a = none) (ha : H a = some o) (hc : ce.ct W o tp) :
    Sat ⟨W, H, fun _ => False, some a⟩ (.lp :: (en x ++ (List.replicate m .no ++ [.ln ce tp]))) (start N (.ref a :: vs)) W H := by
  have ent : ∀ (i : Nat) (e : Ent K), (Ent.lp :: (en x ++ (List.replicate m .no ++ [.ln ce tp])))[i]? = some e → e = .no ∨ (e = .lp ∧ i = 0) ∨ e = .ln ce tp ∨ ∃ (γ : Type) (c : Cod K γ) (y : γ) (v : V), e = .im c y ∧ (V.ref a :: vs)[i]? = some v ∧ c.rp W v y := fun i e h => by
    cases i with
    | zero => simp at h; exact .inr (.inl ⟨h.symm, rfl⟩)
    | succ i =>
      rw [List.getElem?_cons_succ] at h
      by_cases hi : i < (en x).length
      · rw [List.getElem?_append_left hi] at h
        obtain ⟨γ, c, y, v, e1, e2, e3⟩ := hp.ok q i e h
        exact .inr (.inr (.inr ⟨γ, c, y, v, e1, by simpa using e2, e3⟩))
      · rw [List.getElem?_append_right (by omega)] at h
        by_cases hj : i - (en x).length < m
        · rw [List.getElem?_append_left (by simpa using hj), List.getElem?_replicate] at h
          have he : e = .no := by split at h <;> simp_all
          exact .inl he
        · rw [List.getElem?_append_right (by simpa using hj)] at h
          have hz : e = .ln ce tp := by
            generalize i - (en x).length - (List.replicate m (Ent.no (K := K))).length = kk at h
            cases kk with
            | zero => simp at h; exact h.symm
            | succ kk => simp at h
          exact .inr (.inr (.inl hz))
  have no : ∀ i, ¬ own (Ent.lp :: (en x ++ (List.replicate m .no ++ [.ln ce tp]))) i := fun i ⟨e, h1, h2⟩ => by
    rcases ent i e h1 with rfl | ⟨rfl, _⟩ | rfl | ⟨γ, c, y, v, rfl, _⟩ <;> cases h2
  refine ⟨fun i e h => ?_, fun i j a _ hi => absurd hi (no i), sb, Same.refl _, fun i _ _ hi => absurd hi (no i), fun a o h _ _ => h, fun _ h => h, fun _ _ h => h, fun b h => ?_⟩
  · rcases ent i e h with rfl | ⟨rfl, rfl⟩ | rfl | ⟨γ, c, y, v, rfl, h2, h3⟩
    · trivial
    · exact ⟨a, rfl, by rw [start_get (N := N) (vs := .ref a :: vs) (i := 0) (v := .ref a) rfl]; rfl⟩
    · exact ⟨a, o, rfl, wa, ha, hc⟩
    · exact ⟨v, by rw [start_get h2]; rfl, h3⟩
  · rcases h with h | h
    · exact h.elim
    · cases h; rw [ha]; simp
end
/-- what a body is to come to: a value (None at its end, where fl says so) -/
def goTop {K : Frag} {β : Type} (c : Cod K β) (fl : β → Prop) : Go K β β := { R := fun W _ v x => c.rp W v x, ret := fun x => x, nx := fun _ r' => ∃ z, r' = some z ∧ fl z }
def goTopN {K : Frag} {β : Type} (C : Ct) (c : Cel K β) : Go K β β := { R := NewR C c, ret := fun x => x, nx := fun _ _ => False }
/-- a value, and what was lent -/
def RetL {K : Frag} {β τ : Type} (C : Ct) (c : Cod K β) (ce : Cel K τ) : Hp → Hp → V → β × τ → Prop := fun W H v x => c.rp W v x.1 ∧ ∃ a o, C.a = some a ∧ H a = some o ∧ ce.ct W o x.2
def RetNL {K : Frag} {β τ : Type} (C : Ct) (c : Cel K β) (ce : Cel K τ) : Hp → Hp → V → β × τ → Prop := fun W H v x => NewR C c W H v x.1 ∧ ∃ a o, C.a = some a ∧ H a = some o ∧ ce.ct W o x.2
def goTopL {K : Frag} {β τ : Type} (C : Ct) (c : Cod K β) (ce : Cel K τ) : Go K (β × τ) (β × τ) := { R := RetL C c ce, ret := fun x => x, nx := fun _ _ => False }
def goTopNL {K : Frag} {β τ : Type} (C : Ct) (c : Cel K β) (ce : Cel K τ) : Go K (β × τ) (β × τ) := { R := RetNL C c ce, ret := fun x => x, nx := fun _ _ => False }
/-- a def that changes what its first argument is -/
def spM {α β τ : Type} (K : Frag) (ce : Cel K τ) (t : TC K α) (f : τ → α → Option (β × τ)) (c : Cod K β) : Sp := fun vs H Q _ => ∃ W a o us tp x, vs = .ref a :: us ∧ Same W H ∧ W a = none ∧ H a = some o ∧ ce.ct W o tp ∧ t.rp W us x ∧ ∃ z, f tp x = some z ∧
  ∀ W' H' v o', Same W W' → Same W' H' → (∀ b u, b ≠ a → H b = some u → H' b = some u) → (∀ b, H b ≠ none → W b = none → W' b = none) → H' a = some o' → ce.ct W' o' z.2 → c.rp W' v z.1 → Q v H'
def spMN {α β τ : Type} (K : Frag) (ce : Cel K τ) (t : TC K α) (f : τ → α → Option (β × τ)) (c : Cel K β) : Sp := fun vs H Q _ => ∃ W a o us tp x, vs = .ref a :: us ∧ Same W H ∧ W a = none ∧ H a = some o ∧ ce.ct W o tp ∧ t.rp W us x ∧ ∃ z, f tp x = some z ∧
  ∀ W' H' p o2 o', Same W W' → Same W' H' → (∀ b u, b ≠ a → H b = some u → H' b = some u) → (∀ b, H b ≠ none → W b = none → W' b = none) → H' a = some o' → ce.ct W' o' z.2 → W' p = none → H p = none → H' p = some o2 → c.ct W' o2 z.1 → Q (.ref p) H'
section
variable {P : Program} {w : World} {K : Frag} {mg : Str → Option Value} {base : Heap} {nm qual : Str} {params : Arguments} {body : List Stmt} {scope : Scope} {fa : Addr} {fd : FuncData} {N ps : List Str} {k : Nat} {α β τ : Type}
/-- the context of a body -/
abbrev bX (P : Program) (w : World) (K : Frag) (mg : Str → Option Value) (base : Heap) (N : List Str) (qual : Str) (scope : Scope) (fa : Addr) (cdv : Value) (A : Around) (outer : List Env) (s : Shared) (H : Hp) (E : XK) : Cx := (cxOf CX0 P w K mg base N qual scope fa cdv A outer s H E).nox
theorem fn_top {t : TC K α} {en : α → En K} {f : α → Option β} {c : Cod K β} (fl : β → Prop) (hfl : ∀ z, fl z → ∀ W, c.rp W .non z) (F : FunD K nm qual params body scope [] [] fa fd) (S : FnScope N ps scope) (hp : PEn t en) (Γ0 : α → En K)
    (hb : ∀ cdv A outer s H E, Room k (A.deeper (envOfC qual scope s.heap.objs.size fa cdv)) → ∀ (C : Ct), (∀ a, ¬ C.B a) → ∀ x, GK (bX P w K mg base N qual scope fa cdv A outer s H E) C (wpB (bX P w K mg base N qual scope fa cdv A outer s H E) body) (Γ0 x) (f x) (goTop c fl))
    (hn : t.n = ps.length := by rfl) (hΓ : ∀ x, Γ0 x = en x ++ List.replicate (N.length - t.n) .no := by intro _; rfl) : FnOk P w K mg base CX0 (k + 1) fa fd ps (spP K t f c) := by
  refine F.ok S (fun vs H Q E h => ?_) fun cdv A outer s H vs Q E hr h => ⟨wpB (bX P w K mg base N qual scope fa cdv A outer s H E) body, PSs.nox pss_w, ?_⟩
  · obtain ⟨W, x, _, q, _⟩ := h
    rw [t.len q, hn]
  · obtain ⟨W, x, sb, q, z, hz, kk⟩ := h
    have s0 := start_sat (N := N) (m := N.length - t.n) hp q sb
    rw [← hΓ x] at s0
    have gr : ∀ {Γ' : En K} {σ' W' H'}, Sat ⟨W, H, fun _ => False, none⟩ Γ' σ' W' H' → Grow W H W' H' := fun s' => ⟨s'.old, fun a o h => s'.fr a o h (fun z => z) (fun z => nomatch z), s'.sub, s'.nw⟩
    refine (hb cdv A outer s H E hr ⟨W, H, fun _ => False, none⟩ (fun _ z => z) x).run z _ W H _ s0 hz (fun Γ' r' σ' W' H' j hr' s' _ => ?_) (fun _ _ _ _ _ j => j.elim) (fun _ _ _ _ _ j => j.elim) (fun y v Γ' σ' W' H' e s' _ q' => ?_)
    · obtain ⟨z', e1, e2⟩ := j
      rw [hr'] at e1; cases e1
      exact kk W' H' .non (gr s') (hfl z e2 W')
    · have e : y = z := e
      subst e
      exact kk W' H' v (gr s') q'
theorem fn_topN {t : TC K α} {en : α → En K} {f : α → Option β} {c : Cel K β} (F : FunD K nm qual params body scope [] [] fa fd) (S : FnScope N ps scope) (hp : PEn t en) (Γ0 : α → En K)
    (hb : ∀ cdv A outer s H E, Room k (A.deeper (envOfC qual scope s.heap.objs.size fa cdv)) → ∀ (C : Ct), (∀ a, ¬ C.B a) → ∀ x, GK (bX P w K mg base N qual scope fa cdv A outer s H E) C (wpB (bX P w K mg base N qual scope fa cdv A outer s H E) body) (Γ0 x) (f x) (goTopN C c))
    (hn : t.n = ps.length := by rfl) (hΓ : ∀ x, Γ0 x = en x ++ List.replicate (N.length - t.n) .no := by intro _; rfl) : FnOk P w K mg base CX0 (k + 1) fa fd ps (spN K t f c) := by
  refine F.ok S (fun vs H Q E h => ?_) fun cdv A outer s H vs Q E hr h => ⟨wpB (bX P w K mg base N qual scope fa cdv A outer s H E) body, PSs.nox pss_w, ?_⟩
  · obtain ⟨W, x, _, q, _⟩ := h
    rw [t.len q, hn]
  · obtain ⟨W, x, sb, q, z, hz, kk⟩ := h
    have s0 := start_sat (N := N) (m := N.length - t.n) hp q sb
    rw [← hΓ x] at s0
    have gr : ∀ {Γ' : En K} {σ' W' H'}, Sat ⟨W, H, fun _ => False, none⟩ Γ' σ' W' H' → Grow W H W' H' := fun s' => ⟨s'.old, fun a o h => s'.fr a o h (fun z => z) (fun z => nomatch z), s'.sub, s'.nw⟩
    refine (hb cdv A outer s H E hr ⟨W, H, fun _ => False, none⟩ (fun _ z => z) x).run z _ W H _ s0 hz (fun _ _ _ _ _ j => j.elim) (fun _ _ _ _ _ j => j.elim) (fun _ _ _ _ _ j => j.elim) (fun y v Γ' σ' W' H' e s' _ q' => ?_)
    have e : y = z := e
    subst e
    obtain ⟨p, o, rfl, h1, h2, h3, h4⟩ := q'
    exact kk W' H' p o (gr s') h1 h2 h3 h4
theorem fn_topL {t : TC K α} {en : α → En K} {ce : Cel K τ} {f : τ → α → Option (β × τ)} {c : Cod K β} (F : FunD K nm qual params body scope [] [] fa fd) (S : FnScope N ps scope) (hp : PEn t en) (Γ0 : τ → α → En K)
    (hb : ∀ cdv A outer s H E, Room k (A.deeper (envOfC qual scope s.heap.objs.size fa cdv)) → ∀ (C : Ct), (∀ a, ¬ C.B a) → ∀ tp x, GK (bX P w K mg base N qual scope fa cdv A outer s H E) C (wpB (bX P w K mg base N qual scope fa cdv A outer s H E) body) (Γ0 tp x) (f tp x) (goTopL C c ce))
    (hn : t.n + 1 = ps.length := by rfl) (hΓ : ∀ tp x, Γ0 tp x = .lp :: (en x ++ (List.replicate (N.length - (t.n + 1)) .no ++ [.ln ce tp])) := by intro _ _; rfl) : FnOk P w K mg base CX0 (k + 1) fa fd ps (spM K ce t f c) := by
  refine F.ok S (fun vs H Q E h => ?_) fun cdv A outer s H vs Q E hr h => ⟨wpB (bX P w K mg base N qual scope fa cdv A outer s H E) body, PSs.nox pss_w, ?_⟩
  · obtain ⟨W, a, o, us, tp, x, rfl, _, _, _, _, q, _⟩ := h
    rw [List.length_cons, t.len q, hn]
  · obtain ⟨W, a, o, us, tp, x, rfl, sb, wa, ha, hc, q, z, hz, kk⟩ := h
    have s0 := start_satL (N := N) (m := N.length - (t.n + 1)) hp q sb wa ha hc
    rw [← hΓ tp x] at s0
    refine (hb cdv A outer s H E hr ⟨W, H, fun _ => False, some a⟩ (fun _ z => z) tp x).run z _ W H _ s0 hz (fun _ _ _ _ _ j => j.elim) (fun _ _ _ _ _ j => j.elim) (fun _ _ _ _ _ j => j.elim) (fun y v Γ' σ' W' H' e s' _ q' => ?_)
    have e : y = z := e
    subst e
    obtain ⟨h1, a', o', h2, h3, h4⟩ := q'
    cases h2
    exact kk W' H' v o' s'.old s'.sub (fun b u hb h => s'.fr b u h (fun z => z) fun z => hb (Option.some.inj z).symm) s'.nw h3 h4 h1
theorem fn_topNL {t : TC K α} {en : α → En K} {ce : Cel K τ} {f : τ → α → Option (β × τ)} {c : Cel K β} (F : FunD K nm qual params body scope [] [] fa fd) (S : FnScope N ps scope) (hp : PEn t en) (Γ0 : τ → α → En K)
    (hb : ∀ cdv A outer s H E, Room k (A.deeper (envOfC qual scope s.heap.objs.size fa cdv)) → ∀ (C : Ct), (∀ a, ¬ C.B a) → ∀ tp x, GK (bX P w K mg base N qual scope fa cdv A outer s H E) C (wpB (bX P w K mg base N qual scope fa cdv A outer s H E) body) (Γ0 tp x) (f tp x) (goTopNL C c ce))
    (hn : t.n + 1 = ps.length := by rfl) (hΓ : ∀ tp x, Γ0 tp x = .lp :: (en x ++ (List.replicate (N.length - (t.n + 1)) .no ++ [.ln ce tp])) := by intro _ _; rfl) : FnOk P w K mg base CX0 (k + 1) fa fd ps (spMN K ce t f c) := by
  refine F.ok S (fun vs H Q E h => ?_) fun cdv A outer s H vs Q E hr h => ⟨wpB (bX P w K mg base N qual scope fa cdv A outer s H E) body, PSs.nox pss_w, ?_⟩
  · obtain ⟨W, a, o, us, tp, x, rfl, _, _, _, _, q, _⟩ := h
    rw [List.length_cons, t.len q, hn]
  · obtain ⟨W, a, o, us, tp, x, rfl, sb, wa, ha, hc, q, z, hz, kk⟩ := h
    have s0 := start_satL (N := N) (m := N.length - (t.n + 1)) hp q sb wa ha hc
    rw [← hΓ tp x] at s0
    refine (hb cdv A outer s H E hr ⟨W, H, fun _ => False, some a⟩ (fun _ z => z) tp x).run z _ W H _ s0 hz (fun _ _ _ _ _ j => j.elim) (fun _ _ _ _ _ j => j.elim) (fun _ _ _ _ _ j => j.elim) (fun y v Γ' σ' W' H' e s' _ q' => ?_)
    have e : y = z := e
    subst e
    obtain ⟨⟨p, o2, rfl, g1, g2, g3, g4⟩, a', o', h2, h3, h4⟩ := q'
    cases h2
    exact kk W' H' p o2 o' s'.old s'.sub (fun b u hb h => s'.fr b u h (fun z => z) fun z => hb (Option.some.inj z).symm) s'.nw h3 h4 g1 g2 g3 g4
theorem fnp_of {x : Str} {sp : Sp} (hm : mg x = some (.ref fa)) (F : FunD K nm qual params body scope [] [] fa fd) (G : FnOk P w K mg base CX0 k fa fd ps sp)
    (h : ∀ (kV doc pm : Value) (an : Option Addr) (cdv ct : Value) (us : List Value), us.length = ps.length → bindArgs (PySem.W.fnOf nm qual params body scope .none kV doc pm an cdv ct) ⟨us, []⟩ = pure (ps.zip us)) : FnP P w K mg base x k ps sp :=
  ⟨fa, fd, hm, F.kp, F.bindsN h, G⟩
end
/-! ### calls that change what they are lent -/
section
variable {X : Cx} {C : Ct} {ρ α β γ τ : Type} {Γ : En X.K} {e a b : Expr} {es : List Expr} {r : Option ρ} {x n : Str} {pos p p2 p3 : Pos}
theorem Sat.lent {σ : L2.St} {W H : Hp} {m : Nat} {ce : Cel X.K τ} {tp : τ} (s : Sat C Γ σ W H) (h : Γ[m]? = some (.ln ce tp)) : ∃ a o, C.a = some a ∧ W a = none ∧ H a = some o ∧ ce.ct W o tp := s.sl m _ h
theorem ex_callL {t : TC X.K α} {c : Cod X.K β} {ce : Cel X.K τ} {f : τ → α → Option (β × τ)} {J : β → En X.K → Option ρ → Prop} {k : Nat} {ps : List Str} (i m : Nat) (F : FnP X.prog X.w X.K X.mg X.base x k ps (spM X.K ce t f c)) (hr : Room k X.A)
    (h : EA X C Γ es t r fun y Γ1 r1 => ∃ tp, Γ1[m]? = some (.ln ce tp) ∧ lnU m 0 Γ1 = true ∧ ∃ k, r1 = f tp y >>= k ∧ ∀ z, J z.1 (Γ1.set m (.ln ce z.2)) (k z)) (hΓ : Γ[i]? = some .lp := by rfl) (hN : X.N[i]? = some n := by rfl)
    (hv : Vis X.env.scope n := by first | exact Or.inl rfl | exact Or.inr (Or.inl rfl) | exact Or.inr (Or.inr rfl)) (hd : (n == ("__debug__" : Str)) = false := by decide) (hcd : (n == ("__classdict__" : Str)) = false := by decide)
    (hg : Gl X x := by rfl) (hdb : (x == ("__debug__" : Str)) = false := by decide)
    (he : starEach (.Name n p2 :: es) X.env = (false, eval (.Name n p2) X.env) :: starEach es X.env := by rfl) (hpl : (backTo pos (starEach es X.env)).any (·.1) = false := by rfl) : EX X C Γ (.Call (.Name x p) (.Name n p2 :: es) [] pos) c r J := .mk fun z σ W H Q s hrr kk => by
  obtain ⟨fa, fd, h1, h2, h3, h4⟩ := F.ex
  refine w_pe (pe_call h4 hr hg h1 h2 h3 .nil pass0 (pa_cons (pe_var hN hv hd hcd) pa_w he) hdb he hpl) ?_
  obtain ⟨la, ca, ea⟩ := s.sl i _ hΓ
  refine ⟨_, getD_some ea, h z σ W H _ s hrr fun y Γ1 r1 W1 H1 vs j1 hr1 s1 w1 q1 => ?_⟩
  obtain ⟨tp, g1, g2, k2, e2, j2⟩ := j1
  rw [e2] at hr1
  obtain ⟨t2, et, ht⟩ := bind_some hr1
  obtain ⟨la', o, ca', wa, ha, hc⟩ := s1.lent g1
  rw [ca] at ca'; cases ca'
  rw [List.append_nil]
  exact ⟨W1, la, o, vs, tp, y, rfl, s1.sub, wa, ha, hc, q1, t2, et, fun W2 H2 v o' w2 sub2 hh nw2 ha2 hc2 q2 => kk t2.1 _ _ W2 H2 v (j2 t2) ht (s1.turnL g1 ca w2 sub2 nw2 hh ha2 hc2 g2) (w1.trans w2) q2⟩
theorem ef_callL {t : TC X.K α} {c : Cel X.K β} {ce : Cel X.K τ} {f : τ → α → Option (β × τ)} {J : β → En X.K → Option ρ → Prop} {k : Nat} {ps : List Str} (i m : Nat) (F : FnP X.prog X.w X.K X.mg X.base x k ps (spMN X.K ce t f c)) (hr : Room k X.A)
    (h : EA X C Γ es t r fun y Γ1 r1 => ∃ tp, Γ1[m]? = some (.ln ce tp) ∧ lnU m 0 Γ1 = true ∧ ∃ k, r1 = f tp y >>= k ∧ ∀ z, J z.1 (Γ1.set m (.ln ce z.2)) (k z)) (hΓ : Γ[i]? = some .lp := by rfl) (hN : X.N[i]? = some n := by rfl)
    (hv : Vis X.env.scope n := by first | exact Or.inl rfl | exact Or.inr (Or.inl rfl) | exact Or.inr (Or.inr rfl)) (hd : (n == ("__debug__" : Str)) = false := by decide) (hcd : (n == ("__classdict__" : Str)) = false := by decide)
    (hg : Gl X x := by rfl) (hdb : (x == ("__debug__" : Str)) = false := by decide)
    (he : starEach (.Name n p2 :: es) X.env = (false, eval (.Name n p2) X.env) :: starEach es X.env := by rfl) (hpl : (backTo pos (starEach es X.env)).any (·.1) = false := by rfl) : EF X C Γ (.Call (.Name x p) (.Name n p2 :: es) [] pos) c r J := .mk fun z σ W H Q s hrr kk => by
  obtain ⟨fa, fd, h1, h2, h3, h4⟩ := F.ex
  refine w_pe (pe_call h4 hr hg h1 h2 h3 .nil pass0 (pa_cons (pe_var hN hv hd hcd) pa_w he) hdb he hpl) ?_
  obtain ⟨la, ca, ea⟩ := s.sl i _ hΓ
  refine ⟨_, getD_some ea, h z σ W H _ s hrr fun y Γ1 r1 W1 H1 vs j1 hr1 s1 w1 q1 => ?_⟩
  obtain ⟨tp, g1, g2, k2, e2, j2⟩ := j1
  rw [e2] at hr1
  obtain ⟨t2, et, ht⟩ := bind_some hr1
  obtain ⟨la', o, ca', wa, ha, hc⟩ := s1.lent g1
  rw [ca] at ca'; cases ca'
  rw [List.append_nil]
  refine ⟨W1, la, o, vs, tp, y, rfl, s1.sub, wa, ha, hc, q1, t2, et, fun W2 H2 pp o2 o' w2 sub2 hh nw2 ha2 hc2 wp hp h2p ct => ?_⟩
  have cp : C.H pp = none := by
    cases q : C.H pp with
    | none => rfl
    | some u => exact absurd hp (s1.li pp (by rw [q]; simp))
  have s2 := s1.turnL g1 ca w2 sub2 nw2 hh ha2 hc2 g2
  exact kk t2.1 _ _ W2 H2 pp o2 (j2 t2) ht s2 (w1.trans w2) wp cp h2p ct (fun j oj => s1.apart hp j (own_ne oj fun z => by subst z; exact own_no rfl oj)) fun z => s1.lb pp (.inr z) hp
/-- .. a name's own -/
theorem ex_callO {t : TC X.K α} {c : Cod X.K β} {ce : Cel X.K τ} {f : τ → α → Option (β × τ)} {J : β → En X.K → Option ρ → Prop} {k : Nat} {ps : List Str} (i : Nat) (F : FnP X.prog X.w X.K X.mg X.base x k ps (spM X.K ce t f c)) (hr : Room k X.A) {tp0 : τ}
    (h : EA X C Γ es t r fun y Γ1 r1 => ∃ tp, Γ1[i]? = some (.ow ce tp) ∧ ∃ k, r1 = f tp y >>= k ∧ ∀ z, J z.1 (Γ1.set i (.ow ce z.2)) (k z)) (hΓ : Γ[i]? = some (.ow ce tp0) := by rfl) (hN : X.N[i]? = some n := by rfl)
    (hv : Vis X.env.scope n := by first | exact Or.inl rfl | exact Or.inr (Or.inl rfl) | exact Or.inr (Or.inr rfl)) (hd : (n == ("__debug__" : Str)) = false := by decide) (hcd : (n == ("__classdict__" : Str)) = false := by decide)
    (hg : Gl X x := by rfl) (hdb : (x == ("__debug__" : Str)) = false := by decide)
    (he : starEach (.Name n p2 :: es) X.env = (false, eval (.Name n p2) X.env) :: starEach es X.env := by rfl) (hpl : (backTo pos (starEach es X.env)).any (·.1) = false := by rfl) : EX X C Γ (.Call (.Name x p) (.Name n p2 :: es) [] pos) c r J := .mk fun z σ W H Q s hrr kk => by
  obtain ⟨fa, fd, h1, h2, h3, h4⟩ := F.ex
  refine w_pe (pe_call h4 hr hg h1 h2 h3 .nil pass0 (pa_cons (pe_var hN hv hd hcd) pa_w he) hdb he hpl) ?_
  obtain ⟨la, o0, ea, ha0, hc0⟩ := s.seen hΓ
  refine ⟨_, ea, h z σ W H _ s hrr fun y Γ1 r1 W1 H1 vs j1 hr1 s1 w1 q1 => ?_⟩
  obtain ⟨tp, g1, k2, e2, j2⟩ := j1
  rw [e2] at hr1
  obtain ⟨t2, et, ht⟩ := bind_some hr1
  obtain ⟨la', o, ea', wa, _, ha, hc⟩ := s1.sl i _ g1
  have ea' := getD_some ea'
  rw [ea] at ea'; cases ea'
  rw [List.append_nil]
  exact ⟨W1, la, o, vs, tp, y, rfl, s1.sub, wa, ha, hc, q1, t2, et, fun W2 H2 v o' w2 sub2 hh nw2 ha2 hc2 q2 => kk t2.1 _ _ W2 H2 v (j2 t2) ht (s1.turn g1 ea w2 sub2 nw2 hh ha2 hc2) (w1.trans w2) q2⟩
theorem ef_callO {t : TC X.K α} {c : Cel X.K β} {ce : Cel X.K τ} {f : τ → α → Option (β × τ)} {J : β → En X.K → Option ρ → Prop} {k : Nat} {ps : List Str} (i : Nat) (F : FnP X.prog X.w X.K X.mg X.base x k ps (spMN X.K ce t f c)) (hr : Room k X.A) {tp0 : τ}
    (h : EA X C Γ es t r fun y Γ1 r1 => ∃ tp, Γ1[i]? = some (.ow ce tp) ∧ ∃ k, r1 = f tp y >>= k ∧ ∀ z, J z.1 (Γ1.set i (.ow ce z.2)) (k z)) (hΓ : Γ[i]? = some (.ow ce tp0) := by rfl) (hN : X.N[i]? = some n := by rfl)
    (hv : Vis X.env.scope n := by first | exact Or.inl rfl | exact Or.inr (Or.inl rfl) | exact Or.inr (Or.inr rfl)) (hd : (n == ("__debug__" : Str)) = false := by decide) (hcd : (n == ("__classdict__" : Str)) = false := by decide)
    (hg : Gl X x := by rfl) (hdb : (x == ("__debug__" : Str)) = false := by decide)
    (he : starEach (.Name n p2 :: es) X.env = (false, eval (.Name n p2) X.env) :: starEach es X.env := by rfl) (hpl : (backTo pos (starEach es X.env)).any (·.1) = false := by rfl) : EF X C Γ (.Call (.Name x p) (.Name n p2 :: es) [] pos) c r J := .mk fun z σ W H Q s hrr kk => by
  obtain ⟨fa, fd, h1, h2, h3, h4⟩ := F.ex
  refine w_pe (pe_call h4 hr hg h1 h2 h3 .nil pass0 (pa_cons (pe_var hN hv hd hcd) pa_w he) hdb he hpl) ?_
  obtain ⟨la, o0, ea, ha0, hc0⟩ := s.seen hΓ
  refine ⟨_, ea, h z σ W H _ s hrr fun y Γ1 r1 W1 H1 vs j1 hr1 s1 w1 q1 => ?_⟩
  obtain ⟨tp, g1, k2, e2, j2⟩ := j1
  rw [e2] at hr1
  obtain ⟨t2, et, ht⟩ := bind_some hr1
  obtain ⟨la', o, ea', wa, _, ha, hc⟩ := s1.sl i _ g1
  have ea' := getD_some ea'
  rw [ea] at ea'; cases ea'
  rw [List.append_nil]
  refine ⟨W1, la, o, vs, tp, y, rfl, s1.sub, wa, ha, hc, q1, t2, et, fun W2 H2 pp o2 o' w2 sub2 hh nw2 ha2 hc2 wp hp h2p ct => ?_⟩
  have cp : C.H pp = none := by
    cases q : C.H pp with
    | none => rfl
    | some u => exact absurd hp (s1.li pp (by rw [q]; simp))
  have s2 := s1.turn g1 ea w2 sub2 nw2 hh ha2 hc2
  exact kk t2.1 _ _ W2 H2 pp o2 (j2 t2) ht s2 (w1.trans w2) wp cp h2p ct (fun j oj => by
    by_cases hj : j = i
    · subst hj; exact s1.apart hp j ⟨_, g1, rfl⟩
    · exact s1.apart hp j (own_ne oj hj)) fun z => s1.lb pp (.inr z) hp
/-- return e, what was lent stands at m -/
theorem gs_retL {T : Go X.K (α × τ) β} {r : Option β} {c : Cod X.K α} {ce : Cel X.K τ} (m : Nat) (h : EX X C Γ e c r fun x Γ1 r1 => ∃ tp, Γ1[m]? = some (.ln ce tp) ∧ r1 = some (T.ret (x, tp))) (hR : T.R = RetL C c ce := by rfl) : GK X C (wpS X (.Return (some e) pos)) Γ r T := GK.mk fun z σ W H D s hr kn kb kc kr =>
  w_ps (ps_ret pe_w) (h z σ W H _ s hr fun x Γ1 r1 W1 H1 v j1 hr1 s1 w1 q1 => by
    obtain ⟨tp, g1, e1⟩ := j1
    obtain ⟨a, o, ca, _, ha, hc⟩ := s1.lent g1
    exact kr (x, tp) v Γ1 σ W1 H1 (by rw [e1] at hr1; exact Option.some.inj hr1) s1 w1 (by rw [hR]; exact ⟨q1, a, o, ca, ha, hc⟩))
theorem gs_retNL {T : Go X.K (α × τ) β} {r : Option β} {c : Cel X.K α} {ce : Cel X.K τ} (m : Nat) (h : EF X C Γ e c r fun x Γ1 r1 => ∃ tp, Γ1[m]? = some (.ln ce tp) ∧ r1 = some (T.ret (x, tp))) (hR : T.R = RetNL C c ce := by rfl) : GK X C (wpS X (.Return (some e) pos)) Γ r T := GK.mk fun z σ W H D s hr kn kb kc kr =>
  w_ps (ps_ret pe_w) (h z σ W H _ s hr fun x Γ1 r1 W1 H1 p o j1 hr1 s1 w1 wp cp hp ct ap lap => by
    obtain ⟨tp, g1, e1⟩ := j1
    obtain ⟨a, o', ca, _, ha, hc⟩ := s1.lent g1
    exact kr (x, tp) _ Γ1 σ W1 H1 (by rw [e1] at hr1; exact Option.some.inj hr1) s1 w1 (by rw [hR]; exact ⟨⟨p, o, rfl, wp, cp, hp, ct⟩, a, o', ca, ha, hc⟩))
theorem gs_retOL {T : Go X.K (α × τ) β} {r : Option β} {c : Cel X.K α} {ce : Cel X.K τ} {y : α} {tp : τ} (i m : Nat) (hr0 : r = some (T.ret (y, tp))) (hB : ∀ a, ¬ C.B a) (hR : T.R = RetNL C c ce := by rfl) (hm : Γ[m]? = some (.ln ce tp) := by rfl) (hN : X.N[i]? = some n := by rfl) (hΓ : Γ[i]? = some (.ow c y) := by rfl)
    (hv : Vis X.env.scope n := by first | exact Or.inl rfl | exact Or.inr (Or.inl rfl) | exact Or.inr (Or.inr rfl)) (hd : (n == ("__debug__" : Str)) = false := by decide) (hcd : (n == ("__classdict__" : Str)) = false := by decide) :
    GK X C (wpS X (.Return (some (.Name n p)) pos)) Γ r T := GK.mk fun z σ W H D s hr kn kb kc kr =>
  w_ps (ps_ret (pe_var hN hv hd hcd)) (by
    obtain ⟨ad, o, e1, e2, e3, e4, e5⟩ := s.sl i _ hΓ
    obtain ⟨a, o', ca, _, ha, hc⟩ := s.lent hm
    exact ⟨_, getD_some e1, kr (y, tp) _ Γ σ W H (by rw [hr0] at hr; exact Option.some.inj hr) s (Same.refl _) (by rw [hR]; exact ⟨⟨ad, o, rfl, e2, e3.resolve_right (hB ad), e4, e5⟩, a, o', ca, ha, hc⟩)⟩)
end
end Ty

set_option maxHeartbeats 4000000
namespace Ty
open PySem PySem.Spec PyProof.Rows L2

section
variable {X : Cx} {C : Ct} {ρ α β γ τ : Type} {Γ : En X.K} {e a b : Expr} {es : List Expr} {r : Option ρ} {x n : Str} {pos p p2 p3 : Pos}
theorem wk_freeze {K : Frag} {C : Ct} {Γ Γ' : En K} {α : Type} {c : Cod K α} {xs : List α} (i : Nat) (hB : ∀ a, ¬ C.B a) (hi : Γ[i]? = some (.ow (lstC c) xs) := by rfl) (h : Γ.set i (.im (cLst c) xs) = Γ' := by rfl) : Wk C Γ Γ' := fun σ W H s => by
  subst h
  exact s.freeze hi fun a z => absurd z (hB a)

/-! never None -/
structure NN {K : Frag} {α : Type} (c : Cod K α) : Prop where
  nn : ∀ {H v x}, c.rp H v x → v ≠ .non
theorem nnI {K : Frag} : NN (cInt (K := K)) := ⟨fun h => by cases h; intro z; cases z⟩
theorem nnB {K : Frag} : NN (cBool (K := K)) := ⟨fun h => by cases h; intro z; cases z⟩
theorem nnS {K : Frag} : NN (cStr (K := K)) := ⟨fun h => by cases h; intro z; cases z⟩
theorem nnT {K : Frag} {t : TC K α} : NN (cTup t) := ⟨fun ⟨a, vs, h, _⟩ => by rw [h]; intro z; cases z⟩
theorem nnQ {K : Frag} {c : Cod K α} : NN (cSeq c) := ⟨fun ⟨a, vs, h, _⟩ => by rw [h]; intro z; cases z⟩
theorem nnL {K : Frag} {c : Cod K α} : NN (cLst c) := ⟨fun ⟨a, vs, h, _⟩ => by rw [h]; intro z; cases z⟩
theorem ex_some {c : Cod X.K α} {J : Option α → En X.K → Option ρ → Prop} (nn : NN c) (h : EX X C Γ e c r fun x Γ' r' => J (some x) Γ' r') : EX X C Γ e (cOpt c) r J := ex_as some (fun q => ⟨nn.nn q, q⟩) h
theorem ex_non {c : Cod X.K α} {J : Option α → En X.K → Option ρ → Prop} {j} (h : J none Γ r) : EX X C Γ (.Constant .none j pos) (cOpt c) r J := ex_as (c := cNon) (fun _ => none) (fun q => q) (ex_none h)
/-- an optional value that is one -/
theorem ex_get {c : Cod X.K α} {J : α → En X.K → Option ρ → Prop} (h : EX X C Γ e (cOpt c) r fun x Γ' r' => ∃ k, r' = x >>= k ∧ ∀ y, J y Γ' (k y)) : EX X C Γ e c r J := .mk fun z σ W H Q s hr k =>
  h z σ W H Q s hr fun x Γ' r' W' H' v j hr' s' w q => by
    obtain ⟨k2, e2, j2⟩ := j
    rw [e2] at hr'
    obtain ⟨y, ey, ht⟩ := bind_some hr'
    subst ey
    exact k y Γ' _ W' H' v (j2 y) ht s' w q.2
theorem ex_isN {c : Cod X.K α} {J : Bool → En X.K → Option ρ → Prop} {j p2} (h : EX X C Γ a (cOpt c) r fun x Γ1 r1 => J (x.isNone) Γ1 r1) : EX X C Γ (.Compare a [.Is] [.Constant .none j p2] pos) cBool r J := .mk fun z σ W H Q s hr k =>
  w_pe (pe_cmp (pc_isN pe_w)) (h z σ W H _ s hr fun x Γ1 r1 W1 H1 v j1 hr1 s1 w1 q1 => by
    have e : decide (v = V.non) = x.isNone := by
      cases x with
      | none => rw [show v = V.non from q1]; rfl
      | some y => exact decide_eq_false q1.1
    exact k _ Γ1 r1 W1 H1 _ j1 hr1 s1 w1 (by rw [e]; rfl))
theorem ex_notN {c : Cod X.K α} {J : Bool → En X.K → Option ρ → Prop} {j p2} (h : EX X C Γ a (cOpt c) r fun x Γ1 r1 => J (x.isSome) Γ1 r1) : EX X C Γ (.Compare a [.IsNot] [.Constant .none j p2] pos) cBool r J := .mk fun z σ W H Q s hr k =>
  w_pe (pe_cmp (pc_notN pe_w)) (h z σ W H _ s hr fun x Γ1 r1 W1 H1 v j1 hr1 s1 w1 q1 => by
    have e : (!decide (v = V.non)) = x.isSome := by
      cases x with
      | none => rw [show v = V.non from q1]; rfl
      | some y => rw [decide_eq_false q1.1]; rfl
    exact k _ Γ1 r1 W1 H1 _ j1 hr1 s1 w1 (by rw [e]; rfl))

/-! values at large -/
def U.isNon : U → Option Bool
  | .non => some true
  | .opq => none
  | _ => some false
theorem u_non {K : Frag} {H : Hp} {v : V} {x : U} {b : Bool} (h : rpU K H x v) (e : x.isNon = some b) : decide (v = V.non) = b := by
  cases x with
  | non => cases h; cases e; rfl
  | bl _ => cases h; cases e; rfl
  | int _ => cases h; cases e; rfl
  | str _ => cases h; cases e; rfl
  | tup _ => obtain ⟨a, vs, rfl, _⟩ := h; cases e; rfl
  | lst _ => obtain ⟨a, vs, rfl, _⟩ := h; cases e; rfl
  | opq => cases e
theorem et_isU {J : Bool → En X.K → Option ρ → Prop} {j p2} (h : EX X C Γ a cU r fun x Γ1 r1 => ∃ k, r1 = x.isNon >>= k ∧ ∀ z, J z Γ1 (k z)) : ET X C Γ (.Compare a [.Is] [.Constant .none j p2] pos) r J := .mk fun z σ W H Q s hr k =>
  w_pt (pt_cmp (pc_isN pe_w)) (h z σ W H _ s hr fun x Γ1 r1 W1 H1 v j1 hr1 s1 w1 q1 => by
    obtain ⟨k2, e2, j2⟩ := j1
    rw [e2] at hr1
    obtain ⟨t, et, ht⟩ := bind_some hr1
    exact ⟨_, rfl, by rw [u_non q1 et]; exact k _ Γ1 _ W1 H1 (j2 t) ht s1 w1⟩)
theorem ex_isU {J : Bool → En X.K → Option ρ → Prop} {j p2} (h : EX X C Γ a cU r fun x Γ1 r1 => ∃ k, r1 = x.isNon >>= k ∧ ∀ z, J z Γ1 (k z)) : EX X C Γ (.Compare a [.Is] [.Constant .none j p2] pos) cBool r J := .mk fun z σ W H Q s hr k =>
  w_pe (pe_cmp (pc_isN pe_w)) (h z σ W H _ s hr fun x Γ1 r1 W1 H1 v j1 hr1 s1 w1 q1 => by
    obtain ⟨k2, e2, j2⟩ := j1
    rw [e2] at hr1
    obtain ⟨t, et, ht⟩ := bind_some hr1
    exact k t Γ1 _ W1 H1 _ (j2 t) ht s1 w1 (by rw [u_non q1 et]; rfl))
def U.get : U → Int → Option U
  | .tup l, i => atI l i
  | _, _ => none
theorem rpUs.get {K : Frag} {H : Hp} : ∀ {us : List U} {vs : List V} {i : Nat} {x : U}, rpUs K H us vs → us[i]? = some x → ∃ v, vs[i]? = some v ∧ rpU K H x v
  | [], _, _, _, _, e => by simp at e
  | u :: us, _, 0, x, ⟨v, r, rfl, h2, h3⟩, e => by simp at e; subst e; exact ⟨v, rfl, h2⟩
  | u :: us, _, i + 1, x, ⟨v, r, rfl, h2, h3⟩, e => by
    obtain ⟨w, q1, q2⟩ := rpUs.get (i := i) h3 (by simpa using e)
    exact ⟨w, by simpa using q1, q2⟩
theorem ex_ixU {J : U → En X.K → Option ρ → Prop} (h : EX X C Γ a cU r fun x Γ1 r1 => EX X C Γ1 b cInt r1 fun i Γ2 r2 => ∃ k, r2 = U.get x i >>= k ∧ ∀ z, J z Γ2 (k z)) (hp : PlainIx b := by exact fun _ _ => rfl) :
    EX X C Γ (.Subscript a b pos) cU r J := .mk fun z σ W H Q s hr k =>
  w_pe (pe_ix ix_tup pe_w pe_w hp) (h z σ W H _ s hr fun x Γ1 r1 W1 H1 v j1 hr1 s1 w1 q1 => j1 z σ W1 H1 _ s1 hr1 fun i Γ2 r2 W2 H2 u j2 hr2 s2 w2 q2 => by
    obtain ⟨k2, e2, j2⟩ := j2
    rw [e2] at hr2
    obtain ⟨t, et, ht⟩ := bind_some hr2
    cases x with
    | tup l =>
      obtain ⟨ad, vs, rfl, h2, h3⟩ := q1
      have et : atI l i = some t := et
      unfold atI at et
      cases hj : ixN l.length i with
      | none => rw [hj] at et; cases et
      | some jn =>
        rw [hj] at et
        have h3' := h3.mono w2
        obtain ⟨w, f1, f2⟩ := rpUs.get h3' (show l[jn]? = some t from et)
        refine ⟨ad, vs, i, w, rfl, q2, Same.tup s2.sub (Same.tup w2 h2), ?_, k t Γ2 _ W2 H2 w (j2 t) ht s2 (w1.trans w2) f2⟩
        unfold atI
        rw [rpUs.length h3', hj]
        exact f1
    | _ => cases et)
def U.eq : U → U → Option Bool
  | .int i, .int j => some (decide (i = j))
  | .bl i, .bl j => some (decide (i = j))
  | .str i, .str j => some (decide (i = j))
  | _, _ => none
theorem o_eqU : Op2 X (compareOp .Eq) cU cU cBool U.eq := ⟨_, op_eq, fun W H x y v u z Q sb h1 h2 e k => by
  cases x with
  | int i => cases y with
    | int j => cases h1; cases h2; cases e; exact ⟨rfl, k _ W H (Grow.refl sb) (by show V.bl _ = V.bl _; rw [dec_int, Bool.beq_eq_decide_eq])⟩
    | _ => cases e
  | bl i => cases y with
    | bl j => cases h1; cases h2; cases e; exact ⟨rfl, k _ W H (Grow.refl sb) (by show V.bl _ = V.bl _; rw [dec_bl, Bool.beq_eq_decide_eq])⟩
    | _ => cases e
  | str i => cases y with
    | str j => cases h1; cases h2; cases e; exact ⟨rfl, k _ W H (Grow.refl sb) (by show V.bl _ = V.bl _; rw [dec_str, Bool.beq_eq_decide_eq])⟩
    | _ => cases e
  | _ => cases e⟩
/-- a comparison that may not go -/
theorem ex_cmpP {op : CmpOp} {c1 : Cod X.K α} {c2 : Cod X.K β} {g : α → β → Option Bool} {J : Bool → En X.K → Option ρ → Prop} (o : Op2 X (compareOp op) c1 c2 cBool g)
    (h : EX X C Γ a c1 r fun x Γ1 r1 => EX X C Γ1 b c2 r1 fun y Γ2 r2 => ∃ k, r2 = g x y >>= k ∧ ∀ z, J z Γ2 (k z)) (hm : behindInMarks op b = false := by first | exact nomark _ | rfl) : EX X C Γ (.Compare a [op] [b] pos) cBool r J := .mk fun z σ W H Q s hr k => by
  obtain ⟨ro, ho, hf⟩ := o
  refine w_pe (pe_cmpR ho pe_w pe_w hm) (h z σ W H _ s hr fun x Γ1 r1 W1 H1 v j1 hr1 s1 w1 q1 => j1 z σ W1 H1 _ s1 hr1 fun y Γ2 r2 W2 H2 u j2 hr2 s2 w2 q2 => ?_)
  obtain ⟨k2, e2, j2⟩ := j2
  rw [e2] at hr2
  obtain ⟨t, et, ht⟩ := bind_some hr2
  exact hf W2 H2 x y v u t _ s2.sub (c1.mono w2 q1) q2 et fun w W3 H3 G q3 => k t Γ2 _ W3 H3 w (j2 t) ht (s2.grow G) ((w1.trans w2).trans G.w) q3

/-! the tape: what a law draws from -/
structure Tape where
  cells : List Int
  place : Int
  rest : Int
  mixed : Int
def celT {K : Frag} : Cel K Tape := ⟨fun W o t => ∃ c, o = .lst [.ref c, .int t.place, .int t.rest, .int t.mixed] ∧ W c = some (.lst (t.cells.map V.int)), fun e ⟨c, h, q⟩ => ⟨c, h, e _ _ q⟩, fun ⟨_, h, _⟩ => by rw [h]; trivial⟩
def Tape.fld (t : Tape) : Nat → Int
  | 1 => t.place
  | 2 => t.rest
  | _ => t.mixed
def Tape.put (t : Tape) : Nat → Int → Tape
  | 1, x => { t with place := x }
  | 2, x => { t with rest := x }
  | _, x => { t with mixed := x }
theorem ef_tape {J : Tape → En X.K → Option ρ → Prop} (h : EA X C Γ es (tcC (cLst cInt) (tcC cInt (tcC cInt (tc1 cInt)))) r fun x Γ1 r1 => J ⟨x.1, x.2.1, x.2.2.1, x.2.2.2⟩ Γ1 r1) : EF X C Γ (.List es pos) celT r J := .mk fun z σ W H Q s hr k =>
  w_pe (pe_lst pa_w) (h z σ W H _ s hr fun x Γ1 r1 W1 H1 vs j1 hr1 s1 w1 q1 => by
    obtain ⟨v1, r1', rfl, ⟨ad, us, rfl, h1, h2⟩, v2, r2', rfl, g2, v3, r3', rfl, g3, v4, rfl, g4⟩ := q1
    refine ⟨by show 4 ≤ sizeLine; decide, fun p hp => ?_⟩
    obtain ⟨s2, wp, cp, ap, la⟩ := s1.fresh (o := .lst [.ref ad, v2, v3, v4]) hp
    cases g2; cases g3; cases g4
    rw [h2.ints] at h1
    exact k _ Γ1 r1 _ _ p _ j1 hr1 s2 w1 wp cp upd_same ⟨ad, rfl, h1⟩ ap la)
/-- the name i is lent the tape -/
theorem ex_tapeF {J : Int → En X.K → Option ρ → Prop} {t : Tape} {kk : Nat} {j} (i m : Nat) (hJ : J (t.fld kk) Γ r) (hm : Γ[m]? = some (.ln celT t) := by rfl) (hk : kk = 1 ∨ kk = 2 ∨ kk = 3 := by decide) (hΓ : Γ[i]? = some .lp := by rfl) (hN : X.N[i]? = some n := by rfl)
    (hv : Vis X.env.scope n := by first | exact Or.inl rfl | exact Or.inr (Or.inl rfl) | exact Or.inr (Or.inr rfl)) (hd : (n == ("__debug__" : Str)) = false := by decide) (hcd : (n == ("__classdict__" : Str)) = false := by decide) :
    EX X C Γ (.Subscript (.Name n p) (.Constant (.int (kk : Int)) j p2) pos) cInt r J := .mk fun z σ W H Q s hr k =>
  w_pe (pe_ix ix_list (pe_var hN hv hd hcd) pe_int (fun _ _ => rfl)) (by
    obtain ⟨la, ca, ea⟩ := s.sl i _ hΓ
    obtain ⟨la', o, ca', wa, ha, c, rfl, hc⟩ := s.lent hm
    rw [ca] at ca'; cases ca'
    refine ⟨_, getD_some ea, la, _, (kk : Int), .int (t.fld kk), rfl, rfl, SqL.of ha, ?_, k _ Γ r W H _ hJ hr s (Same.refl _) rfl⟩
    rcases hk with rfl | rfl | rfl <;> rfl)
theorem ex_tape0 {J : List Int → En X.K → Option ρ → Prop} {t : Tape} {j} (i m : Nat) (hJ : J t.cells Γ r) (hm : Γ[m]? = some (.ln celT t) := by rfl) (hΓ : Γ[i]? = some .lp := by rfl) (hN : X.N[i]? = some n := by rfl)
    (hv : Vis X.env.scope n := by first | exact Or.inl rfl | exact Or.inr (Or.inl rfl) | exact Or.inr (Or.inr rfl)) (hd : (n == ("__debug__" : Str)) = false := by decide) (hcd : (n == ("__classdict__" : Str)) = false := by decide) :
    EX X C Γ (.Subscript (.Name n p) (.Constant (.int 0) j p2) pos) (cLst cInt) r J := .mk fun z σ W H Q s hr k =>
  w_pe (pe_ix ix_list (pe_var hN hv hd hcd) pe_int (fun _ _ => rfl)) (by
    obtain ⟨la, ca, ea⟩ := s.sl i _ hΓ
    obtain ⟨la', o, ca', wa, ha, c, rfl, hc⟩ := s.lent hm
    rw [ca] at ca'; cases ca'
    exact ⟨_, getD_some ea, la, _, 0, .ref c, rfl, rfl, SqL.of ha, rfl, k _ Γ r W H _ hJ hr s (Same.refl _) ⟨c, _, rfl, hc, Row.of_ints _⟩⟩)
theorem gs_tape {ρ' : Type} {r : Option β} {T : Go X.K ρ' β} {kk : Nat} {j} (i m : Nat)
    (h : EX X C Γ e cInt r fun x Γ1 r1 => Γ1[i]? = some .lp ∧ lnU m 0 Γ1 = true ∧ ∃ t, Γ1[m]? = some (.ln celT t) ∧ T.nx (Γ1.set m (.ln celT (t.put kk x))) r1) (hk : kk = 1 ∨ kk = 2 ∨ kk = 3 := by decide) (hN : X.N[i]? = some n := by rfl)
    (hv : Vis X.env.scope n := by first | exact Or.inl rfl | exact Or.inr (Or.inl rfl) | exact Or.inr (Or.inr rfl)) (hd : (n == ("__debug__" : Str)) = false := by decide) (hcd : (n == ("__classdict__" : Str)) = false := by decide)
    (ha : ∀ v, assign (.Subscript (.Name n p) (.Constant (.int (kk : Int)) j p3) p2) X.env v = (do
      let ov ← holding [v] (eval (.Name n p) X.env)
      let iv ← holding [v, ov] (eval (.Constant (.int (kk : Int)) j p3) X.env)
      standAt p2
      holding [v, ov, iv] (setItem ov iv v)
      release [v, ov, iv] []) := by intro _; rfl)
    (hs : swapsWithSole [.Subscript (.Name n p) (.Constant (.int (kk : Int)) j p3) p2] e pos.line X.env = pure false := by rfl) (hw : swappedStores [.Subscript (.Name n p) (.Constant (.int (kk : Int)) j p3) p2] e X.env = pure none := by rfl)
    (h1 : (assignEach [.Subscript (.Name n p) (.Constant (.int (kk : Int)) j p3) p2] X.env).map (·.2) = [assign (.Subscript (.Name n p) (.Constant (.int (kk : Int)) j p3) p2) X.env] := by rfl) :
    GK X C (wpS X (.Assign [.Subscript (.Name n p) (.Constant (.int (kk : Int)) j p3) p2] e pos)) Γ r T := GK.mk fun z σ W H D s hr kn kb kc kr => by
  refine w_ps (ps_asg pe_w (pg_sub (pe_var hN hv hd hcd) pe_int set_list ha) hs hw h1) (h z σ W H _ s hr fun x Γ1 r1 W1 H1 v j1 hr1 s1 w1 q1 => ?_)
  obtain ⟨hΓ, hu, t, hm, j1⟩ := j1
  obtain ⟨la, ca, ea⟩ := s1.sl i _ hΓ
  obtain ⟨la', o, ca', wa, hl, c, rfl, hc⟩ := s1.lent hm
  rw [ca] at ca'; cases ca'
  cases q1
  have fin : ∀ jn : Nat, ixN 4 (kk : Int) = some jn → ([V.ref c, .int t.place, .int t.rest, .int t.mixed] : List V).set jn (.int x) = [.ref c, .int (t.put kk x).place, .int (t.put kk x).rest, .int (t.put kk x).mixed] → (t.put kk x).cells = t.cells → 
      D.nx σ (upd H1 la (.lst (([V.ref c, .int t.place, .int t.rest, .int t.mixed] : List V).set jn (.int x)))) := fun jn _ e2 e3 => by
    rw [e2]
    refine kn _ r1 σ W1 _ j1 hr1 (s1.turnL hm ca (Same.refl _) (fun b u q => by rw [upd_ne (ne_of_none q wa)]; exact s1.sub b u q) (fun _ _ q => q) (fun b u hb q => by rw [upd_ne hb]; exact q) upd_same ⟨c, rfl, by rw [e3]; exact hc⟩ hu) w1
  refine ⟨_, getD_some ea, ?_⟩
  rcases hk with rfl | rfl | rfl
  · exact ⟨la, _, 1, 1, rfl, rfl, hl, rfl, fin 1 rfl rfl rfl⟩
  · exact ⟨la, _, 2, 2, rfl, rfl, hl, rfl, fin 2 rfl rfl rfl⟩
  · exact ⟨la, _, 3, 3, rfl, rfl, hl, rfl, fin 3 rfl rfl rfl⟩
end
end Ty

set_option maxHeartbeats 4000000
namespace Ty
open PySem PySem.Spec PyProof.Rows L2

/-! ### from values at large to typed ones -/
section
variable {K : Frag} {α β : Type}
structure DecP (c : Cod K α) (d : U → Option α) : Prop where
  ok : ∀ {H u v x}, d u = some x → rpU K H u v → c.rp H v x
structure DecR (t : TC K α) (d : List U → Option α) : Prop where
  ok : ∀ {H us vs x}, d us = some x → rpUs K H us vs → t.rp H vs x
def dInt : U → Option Int
  | .int i => some i
  | _ => none
def dBool : U → Option Bool
  | .bl i => some i
  | _ => none
def dStr : U → Option Str
  | .str i => some i
  | _ => none
def dTup (d : List U → Option α) : U → Option α
  | .tup l => d l
  | _ => none
def dR0 : List U → Option Unit
  | [] => some ()
  | _ => none
def dR1 (d : U → Option α) : List U → Option α
  | [u] => d u
  | _ => none
def dRC (d : U → Option α) (r : List U → Option β) : List U → Option (α × β)
  | u :: us => d u >>= fun x => r us >>= fun y => some (x, y)
  | _ => none
def dSeq (d : U → Option α) : U → Option (List α)
  | .tup l => mapR d l
  | _ => none
def dLst (d : U → Option α) : U → Option (List α)
  | .lst l => mapR d l
  | _ => none
def dOpt (d : U → Option α) : U → Option (Option α)
  | .non => some none
  | u => d u >>= fun x => some (some x)
theorem decI : DecP (cInt (K := K)) dInt := ⟨fun {H u v x} e h => by cases u <;> first | (cases e; exact h) | cases e⟩
theorem decB : DecP (cBool (K := K)) dBool := ⟨fun {H u v x} e h => by cases u <;> first | (cases e; exact h) | cases e⟩
theorem decS : DecP (cStr (K := K)) dStr := ⟨fun {H u v x} e h => by cases u <;> first | (cases e; exact h) | cases e⟩
theorem decU : DecP (cU (K := K)) some := ⟨fun {H u v x} e h => by cases e; exact h⟩
theorem decT {t : TC K α} {d : List U → Option α} (h : DecR t d) : DecP (cTup t) (dTup d) := ⟨fun {H u v x} e q => by
  cases u <;> first | cases e | skip
  obtain ⟨a, vs, rfl, h2, h3⟩ := q
  exact ⟨a, vs, rfl, h2, h.ok e h3⟩⟩
theorem decR0 : DecR (tc0 (K := K)) dR0 := ⟨fun {H us vs x} e q => by
  cases us with
  | nil => exact q
  | cons _ _ => cases e⟩
theorem decR1 {c : Cod K α} {d : U → Option α} (h : DecP c d) : DecR (tc1 c) (dR1 d) := ⟨fun {H us vs x} e q => by
  match us, e, q with
  | [u], e, ⟨v, r, hv, h1, h2⟩ => cases h2; exact ⟨v, hv, h.ok e h1⟩⟩
theorem decRC {c : Cod K α} {t : TC K β} {d : U → Option α} {r : List U → Option β} (h : DecP c d) (hr : DecR t r) : DecR (tcC c t) (dRC d r) := ⟨fun {H us vs x} e q => by
  match us, e, q with
  | u :: us, e, ⟨v, w, hv, h1, h2⟩ =>
    obtain ⟨x1, e1, e2⟩ := bind_some (show d u >>= _ = some x from e)
    obtain ⟨x2, e3, e4⟩ := bind_some e2
    cases e4
    exact ⟨v, w, hv, h.ok e1 h1, hr.ok e3 h2⟩⟩
theorem row_dec {c : Cod K α} {d : U → Option α} {H : Hp} (h : DecP c d) : ∀ {us : List U} {vs : List V} {xs : List α}, mapR d us = some xs → rpUs K H us vs → Row c H vs xs
  | [], _, _, e, q => by cases e; cases q; exact .nil
  | u :: us, _, _, e, ⟨v, w, hv, h1, h2⟩ => by
    obtain ⟨x1, e1, e2⟩ := bind_some (show d u >>= _ = some _ from e)
    obtain ⟨x2, e3, e4⟩ := bind_some e2
    cases e4
    subst hv
    exact .cons (h.ok e1 h1) (row_dec h e3 h2)
theorem decQ {c : Cod K α} {d : U → Option α} (h : DecP c d) : DecP (cSeq c) (dSeq d) := ⟨fun {H u v x} e q => by
  cases u <;> first | cases e | skip
  obtain ⟨a, vs, rfl, h2, h3⟩ := q
  exact ⟨a, vs, rfl, h2, row_dec h e h3⟩⟩
theorem decL {c : Cod K α} {d : U → Option α} (h : DecP c d) : DecP (cLst c) (dLst d) := ⟨fun {H u v x} e q => by
  cases u <;> first | cases e | skip
  obtain ⟨a, vs, rfl, h2, h3⟩ := q
  exact ⟨a, vs, rfl, h2, row_dec h e h3⟩⟩
theorem decO {c : Cod K α} {d : U → Option α} (nn : NN c) (h : DecP c d) : DecP (cOpt c) (dOpt d) := ⟨fun {H u v x} e q => by
  have go : ∀ u, (d u >>= fun x => some (some x)) = some x → rpU K H u v → (cOpt c).rp H v x := fun u e q => by
    obtain ⟨x1, e1, e2⟩ := bind_some e
    cases e2
    exact ⟨nn.nn (h.ok e1 q), h.ok e1 q⟩
  cases u with
  | non => cases e; exact q
  | _ => exact go _ e q⟩
end
section
variable {X : Cx} {C : Ct} {ρ α β : Type} {Γ : En X.K} {e a b tg : Expr} {r : Option ρ} {pos p p2 : Pos}
theorem ex_dec {c : Cod X.K α} {d : U → Option α} {J : α → En X.K → Option ρ → Prop} (D : DecP c d) (h : EX X C Γ e cU r fun u Γ' r' => ∃ k, r' = d u >>= k ∧ ∀ x, J x Γ' (k x)) : EX X C Γ e c r J := .mk fun z σ W H Q s hr k =>
  h z σ W H Q s hr fun u Γ' r' W' H' v j hr' s' w q => by
    obtain ⟨k2, e2, j2⟩ := j
    rw [e2] at hr'
    obtain ⟨x, ex, ht⟩ := bind_some hr'
    exact k x Γ' _ W' H' v (j2 x) ht s' w (D.ok ex q)
/-- a typed value read otherwise (by way of its shape at large) -/
theorem ex_cast {c : Cod X.K α} {c' : Cod X.K β} {d : U → Option β} {J : β → En X.K → Option ρ → Prop} (D : DecP c' d) (h : EX X C Γ e c r fun x Γ' r' => ∃ k, r' = d (c.u x) >>= k ∧ ∀ y, J y Γ' (k y)) : EX X C Γ e c' r J := ex_dec D (ex_u h)
theorem ei_U {J : List U → En X.K → Option ρ → Prop} (h : EX X C Γ e cU r fun u Γ' r' => ∃ k, r' = dSeq some u >>= k ∧ ∀ x, J x Γ' (k x)) : EI X C Γ tg e cU r J := ei_seq (ex_dec (decQ decU) h)
/-- list(range(n)) -/
theorem ef_listRng {J : List Int → En X.K → Option ρ → Prop} (hc : X.calm = true) (hm : X.mg "list" = none) (hm2 : X.mg "range" = none) (h : EX X C Γ a cInt r fun n Γ1 r1 => ∃ k, r1 = rng1 n >>= k ∧ ∀ xs, J xs Γ1 (k xs)) (hg : Gl X "list" := by rfl) (hg2 : Gl X "range" := by rfl)
    (na : starEach [a] X.env = (false, eval a X.env) :: starEach [] X.env := by rfl) (na2 : starEach [.Call (.Name "range" p2) [a] [] pos] X.env = (false, eval (.Call (.Name "range" p2) [a] [] pos) X.env) :: starEach [] X.env := by rfl) {pos2 : Pos} :
    EF X C Γ (.Call (.Name "list" p) [.Call (.Name "range" p2) [a] [] pos] [] pos2) (lstC cInt) r J := .mk fun z σ W H Q s hr k =>
  w_pe (pe_listRg hc hg hm (prg_1 hg2 hm2 pe_w na) na2) (h z σ W H _ s hr fun n Γ1 r1 W1 H1 v j1 hr1 s1 w1 q1 => by
    obtain ⟨k2, e2, j2⟩ := j1
    rw [e2] at hr1
    obtain ⟨t, et, ht⟩ := bind_some hr1
    unfold rng1 at et
    split at et
    · rename_i hcn
      cases et
      obtain ⟨c1, c2⟩ := id hcn
      refine ⟨n, q1, ⟨by omega, by omega, by omega, by omega, by omega⟩, fun q hq => ?_⟩
      obtain ⟨s2, wp, cp, ap, la⟩ := s1.fresh (o := .lst (rgV 0 n)) hq
      have e : rgV 0 n = (rangeI 0 n).map V.int := by simp [rgV, rangeI, List.map_map, Function.comp_def]
      exact k _ Γ1 _ W1 _ q _ (j2 _) ht s2 w1 wp cp upd_same ⟨rgV 0 n, rfl, by rw [e]; exact Row.of_ints _⟩ ap la
    · cases et)
end
end Ty

set_option maxHeartbeats 4000000
namespace Ty
open PySem PySem.Spec PyProof.Rows L2
/-! ### calls whose value always goes -/
section
variable {X : Cx} {C : Ct} {ρ α β γ : Type} {Γ : En X.K} {e a b : Expr} {es : List Expr} {r : Option ρ} {pos p p2 p3 : Pos}
theorem CallB.useT {f : Value} {t : TC X.K α} {c : Cod X.K β} {g : α → β} {J : β → En X.K → Option ρ → Prop} {rr : List V → Hp → VK → Prop} (hf : ∀ W H vs x z (Q : VK), Same W H → t.rp W vs x → some (g x) = some z → (∀ w W' H', Grow W H W' H' → c.rp W' w z → Q w H') → rr vs H Q)
    (h : EA X C Γ es t r fun x Γ1 r1 => J (g x) Γ1 r1) {z : ρ} {σ : L2.St} {W H : Hp} {Q : VK} (s : Sat C Γ σ W H) (hr : r = some z)
    (k : ∀ x Γ' r' W' H' v, J x Γ' r' → r' = some z → Sat C Γ' σ W' H' → Same W W' → c.rp W' v x → Q v H') : tCB rr (wpa X es) σ H Q :=
  h z σ W H _ s hr fun x Γ1 r1 W1 H1 vs j1 hr1 s1 w1 q1 =>
    hf W1 H1 vs x _ _ s1.sub q1 rfl fun w W2 H2 G q2 => k (g x) Γ1 _ W2 H2 w j1 hr1 (s1.grow G) (w1.trans G.w) q2
theorem CallN.useT {f : Value} {t : TC X.K α} {c : Cel X.K β} {g : α → β} {J : β → En X.K → Option ρ → Prop} {rr : List V → Hp → VK → Prop} (hf : ∀ W H vs x z (Q : VK), Same W H → t.rp W vs x → some (g x) = some z → (∀ l o, H l = none → c.ct W o z → Q (.ref l) (upd H l o)) → rr vs H Q)
    (h : EA X C Γ es t r fun x Γ1 r1 => J (g x) Γ1 r1) {z : ρ} {σ : L2.St} {W H : Hp} {Q : VK} (s : Sat C Γ σ W H) (hr : r = some z)
    (k : ∀ x Γ' r' W' H' p o, J x Γ' r' → r' = some z → Sat C Γ' σ W' H' → Same W W' → W' p = none → C.H p = none → H' p = some o → c.ct W' o x → Apart Γ' σ p → C.a ≠ some p → Q (.ref p) H') : tCB rr (wpa X es) σ H Q :=
  h z σ W H _ s hr fun x Γ1 r1 W1 H1 vs j1 hr1 s1 w1 q1 => by
    refine hf W1 H1 vs x _ _ s1.sub q1 rfl fun l o hl ct => ?_
    obtain ⟨s2, wl, cl, ap, la⟩ := s1.fresh (o := o) hl
    exact k (g x) Γ1 _ W1 _ l o j1 hr1 s2 w1 wl cl upd_same ct ap la
variable {x : Str} {id T : String}
theorem ex_callBT {t : TC X.K α} {c : Cod X.K β} {g : α → β} {J : β → En X.K → Option ρ → Prop} (o : CallB X (.builtin id) t c fun x => some (g x)) (hm : X.mg x = none) (hv : bootBuiltins x = some (.builtin id))
    (h : EA X C Γ (e :: es) t r fun x Γ1 r1 => J (g x) Γ1 r1) (hg : Gl X x := by rfl) (hn : x ≠ "__name__" := by decide) (hdb : (x == ("__debug__" : Str)) = false := by decide)
    (he : starEach (e :: es) X.env = (false, eval e X.env) :: starEach es X.env := by rfl) (hpl : (backTo pos (starEach es X.env)).any (·.1) = false := by rfl) : EX X C Γ (.Call (.Name x p) (e :: es) [] pos) c r J := .mk fun z σ W H Q s hr k => by
  obtain ⟨rr, hc, hf⟩ := o
  exact w_pe (pe_callB hc hg hm hv pa_w hn hdb he hpl) (CallB.useT (f := .builtin id) hf h s hr k)
theorem ex_callTT {t : TC X.K α} {c : Cod X.K β} {g : α → β} {J : β → En X.K → Option ρ → Prop} (o : CallB X (.type T) t c fun x => some (g x)) (hm : X.mg x = none) (hv : bootBuiltins x = some (.type T))
    (h : EA X C Γ (e :: es) t r fun x Γ1 r1 => J (g x) Γ1 r1) (hg : Gl X x := by rfl) (hn : x ≠ "__name__" := by decide) (hdb : (x == ("__debug__" : Str)) = false := by decide)
    (he : starEach (e :: es) X.env = (false, eval e X.env) :: starEach es X.env := by rfl) (hpl : (backTo pos (starEach es X.env)).any (·.1) = false := by rfl) : EX X C Γ (.Call (.Name x p) (e :: es) [] pos) c r J := .mk fun z σ W H Q s hr k => by
  obtain ⟨rr, hc, hf⟩ := o
  exact w_pe (pe_callTy hc hg hm hv pa_w hn hdb he hpl) (CallB.useT (f := .type T) hf h s hr k)
theorem ex_callFT {t : TC X.K α} {c : Cod X.K β} {g : α → β} {J : β → En X.K → Option ρ → Prop} (o : CallB X (.builtin id) t c fun x => some (g x)) (hm : X.mg x = some (.builtin id))
    (h : EA X C Γ (e :: es) t r fun x Γ1 r1 => J (g x) Γ1 r1) (hg : Gl X x := by rfl) (hdb : (x == ("__debug__" : Str)) = false := by decide)
    (he : starEach (e :: es) X.env = (false, eval e X.env) :: starEach es X.env := by rfl) (hpl : (backTo pos (starEach es X.env)).any (·.1) = false := by rfl) : EX X C Γ (.Call (.Name x p) (e :: es) [] pos) c r J := .mk fun z σ W H Q s hr k => by
  obtain ⟨rr, hc, hf⟩ := o
  exact w_pe (pe_callBfun hc hg hm pa_w hdb he hpl) (CallB.useT (f := .builtin id) hf h s hr k)
theorem ef_callTT {t : TC X.K α} {c : Cel X.K β} {g : α → β} {J : β → En X.K → Option ρ → Prop} (o : CallN X (.type T) t c fun x => some (g x)) (hm : X.mg x = none) (hv : bootBuiltins x = some (.type T))
    (h : EA X C Γ (e :: es) t r fun x Γ1 r1 => J (g x) Γ1 r1) (hg : Gl X x := by rfl) (hn : x ≠ "__name__" := by decide) (hdb : (x == ("__debug__" : Str)) = false := by decide)
    (he : starEach (e :: es) X.env = (false, eval e X.env) :: starEach es X.env := by rfl) (hpl : (backTo pos (starEach es X.env)).any (·.1) = false := by rfl) : EF X C Γ (.Call (.Name x p) (e :: es) [] pos) c r J := .mk fun z σ W H Q s hr k => by
  obtain ⟨rr, hc, hf⟩ := o
  exact w_pe (pe_callTy hc hg hm hv pa_w hn hdb he hpl) (CallN.useT (f := .type T) hf h s hr k)
end

def popAtR (ys : List α) (i : Int) : Option (α × List α) := if ys.length ≤ 16777216 then popR ys i else none
/-! ### the shape at large, without a heap -/
def uInt (x : Int) : U := .int x
def uBool (x : Bool) : U := .bl x
def uStr (x : Str) : U := .str x
def uNon (_ : Unit) : U := .non
def uR0 (_ : Unit) : List U := []
def uR1 (f : α → U) (x : α) : List U := [f x]
def uRC (f : α → U) (g : β → List U) (x : α × β) : List U := f x.1 :: g x.2
def uTup (f : α → List U) (x : α) : U := .tup (f x)
def uSeq (f : α → U) (x : List α) : U := .tup (x.map f)
def uLst (f : α → U) (x : List α) : U := .lst (x.map f)
def uOpt (f : α → U) (x : Option α) : U := match x with | none => .non | some y => f y
/-! ### a tuple of things of one kind, read as a row -/
structure TSq {K : Frag} {α β : Type} (t : TC K α) (c : Cod K β) (g : α → List β) : Prop where
  ok : ∀ {H : Hp} {vs : List V} {x : α}, t.rp H vs x → Row c H vs (g x)
theorem tsq1 {K : Frag} {α : Type} {c : Cod K α} : TSq (tc1 c) c fun x => [x] := ⟨fun {H vs x} ⟨v, h, q⟩ => by subst h; exact .cons q .nil⟩
theorem tsqC {K : Frag} {α β : Type} {c : Cod K α} {t : TC K β} {g : β → List α} (h : TSq t c g) : TSq (tcC c t) c fun x => x.1 :: g x.2 := ⟨fun {H vs x} ⟨v, r, e, q, q2⟩ => by subst e; exact .cons q (h.ok q2)⟩
theorem ex_tsq {X : Cx} {C : Ct} {ρ α β : Type} {Γ : En X.K} {e : Expr} {r : Option ρ} {t : TC X.K α} {c : Cod X.K β} {g : α → List β} {J : List β → En X.K → Option ρ → Prop} (q : TSq t c g) (h : EX X C Γ e (cTup t) r fun x Γ' r' => J (g x) Γ' r') : EX X C Γ e (cSeq c) r J :=
  ex_as (c := cTup t) (c' := cSeq c) g (fun {H v x} h => by obtain ⟨a, vs, h1, h2, h3⟩ := h; exact ⟨a, vs, h1, h2, q.ok h3⟩) h
/-- a constant of the text: a tuple of strings -/
theorem cStrs {K : Frag} {W : Hp} {ad : Addr} {xs : List Str} (h : SqT K W ad (xs.map V.str)) : (cSeq cStr : Cod K (List Str)).rp W (.ref ad) xs := ⟨ad, _, rfl, h, by
  clear h
  induction xs with
  | nil => exact .nil
  | cons x xs ih => exact .cons rfl ih⟩

/-! ### facts of the head -/
def bltB (K : Frag) (x : Str) (id : String) : Bool := He.eqO (PySem.W.nsIn K mainGlobals x) (some (some (.builtin id)))
theorem bltB_ok {K : Frag} {h : Heap} {mg : Str → Option Value} (X : K.In h) (G : h.Ns mainGlobals mg) {x : Str} {id : String} (c : bltB K x id = true) : mg x = some (.builtin id) := PySem.W.mg_of X G (He.eqO_ok c)
def tupO (K : Frag) (x : Str) : Bool := match K.lookup (He.ga K x) with
  | some ⟨.type c, none, _, _⟩ => decide (c = "tuple")
  | _ => false
theorem tupO_ok {K : Frag} {h : Heap} {mg : Str → Option Value} (X : K.In h) (G : h.Ns mainGlobals mg) {x : Str} {vs : List V} (c : (He.Fa.glo x).ok K = true) (q : ∀ W, SqT K W (He.ga K x) vs) (t : tupO K x = true) :
    ∃ (ad : Addr) (o : Obj), mg x = some (.ref ad) ∧ (∀ W, SqT K W ad vs) ∧ (K.lookup ad = some o ∧ o.cls = .type "tuple" ∧ o.dict = none) := by
  unfold tupO at t
  cases e : K.lookup (He.ga K x) with
  | none => rw [e] at t; cases t
  | some o =>
    obtain ⟨oc, od, dt, osl⟩ := o
    rw [e] at t
    cases oc with
    | type c' =>
      cases od with
      | none =>
        have h1 : c' = "tuple" := of_decide_eq_true t
        subst h1
        exact ⟨_, _, He.glo_ok X G c, q, e, rfl, rfl⟩
      | some d => cases t
    | _ => cases od <;> cases t

theorem gk_stuck {X : Cx} {C : Ct} {ρ β : Type} {w : TS} {Γ : En X.K} {T : Go X.K ρ β} : GK X C w Γ none T := GK.mk fun z σ W H D s hr => nomatch hr
theorem bt_len : bootBuiltins "len" = some (.builtin "len") := by decide +kernel
theorem bt_abs : bootBuiltins "abs" = some (.builtin "abs") := by decide +kernel
theorem bt_max : bootBuiltins "max" = some (.builtin "max") := by decide +kernel
theorem bt_min : bootBuiltins "min" = some (.builtin "min") := by decide +kernel
theorem bt_sum : bootBuiltins "sum" = some (.builtin "sum") := by decide +kernel
theorem bt_all : bootBuiltins "all" = some (.builtin "all") := by decide +kernel
theorem bt_any : bootBuiltins "any" = some (.builtin "any") := by decide +kernel
theorem bt_isinstance : bootBuiltins "isinstance" = some (.builtin "isinstance") := by decide +kernel
theorem bt_int : bootBuiltins "int" = some (.type "int") := by decide +kernel
theorem bt_bool : bootBuiltins "bool" = some (.type "bool") := by decide +kernel
theorem bt_str : bootBuiltins "str" = some (.type "str") := by decide +kernel
theorem bt_list : bootBuiltins "list" = some (.type "list") := by decide +kernel
theorem bt_tuple : bootBuiltins "tuple" = some (.type "tuple") := by decide +kernel
theorem bt_range : bootBuiltins "range" = some (.type "range") := by decide +kernel
end Ty

set_option maxHeartbeats 4000000
namespace Ty
open PySem PySem.Spec PyProof.Rows L2
/-! ### sorted, sets of ints -/
def sortI (xs : List Int) : List Int := xs.mergeSort fun a b => decide (a ≤ b)
theorem sortI_perm (xs : List Int) : (sortI xs).Perm xs := List.mergeSort_perm ..
theorem sortI_le (xs : List Int) : (sortI xs).Pairwise (· ≤ ·) := by
  have h := List.pairwise_mergeSort (le := fun a b : Int => decide (a ≤ b)) (fun a b c h1 h2 => by simp only [decide_eq_true_eq] at *; omega) (fun a b => by simp only [Bool.or_eq_true, decide_eq_true_eq]; omega) xs
  exact h.imp fun h => of_decide_eq_true h
theorem perm_le_eq : ∀ {xs ys : List Int}, xs.Perm ys → xs.Pairwise (· ≤ ·) → ys.Pairwise (· ≤ ·) → xs = ys := fun h1 h2 h3 =>
  h1.eq_of_pairwise (le := (· ≤ ·)) (fun a b _ _ h1 h2 => Int.le_antisymm h1 h2) h2 h3
theorem sortI_eq {xs ys : List Int} (h : ys.Perm xs) (s : ys.Pairwise (· ≤ ·)) : ys = sortI xs := perm_le_eq (h.trans (sortI_perm xs).symm) s (sortI_le xs)
theorem sortI_mem {xs : List Int} {x : Int} : x ∈ sortI xs ↔ x ∈ xs := (sortI_perm xs).mem_iff
theorem sortI_len (xs : List Int) : (sortI xs).length = xs.length := (sortI_perm xs).length_eq
/-- what is in, without doubles, rising -/
def setI (xs : List Int) : List Int := sortI xs.eraseDups
theorem nodup_eraseDups : ∀ (n : Nat) (xs : List Int), xs.length ≤ n → xs.eraseDups.Nodup
  | _, [], _ => by simp
  | 0, _ :: _, h => by simp at h
  | n + 1, x :: xs, h => by
    rw [List.eraseDups_cons]
    refine List.nodup_cons.mpr ⟨fun q => ?_, nodup_eraseDups n _ (Nat.le_trans (List.length_filter_le ..) (by simpa using h))⟩
    have := List.mem_eraseDups.mp q
    simp at this
theorem setI_mem {xs : List Int} {x : Int} : x ∈ setI xs ↔ x ∈ xs := by unfold setI; rw [sortI_mem, List.mem_eraseDups]
theorem setI_lt (xs : List Int) : (setI xs).Pairwise (· < ·) := by
  have h1 := sortI_le xs.eraseDups
  have h2 : (setI xs).Nodup := (sortI_perm _).nodup_iff.mpr (nodup_eraseDups _ xs (Nat.le_refl _))
  exact (h1.and h2).imp fun ⟨a, b⟩ => by omega
theorem lt_unique {xs ys : List Int} (h1 : xs.Pairwise (· < ·)) (h2 : ys.Pairwise (· < ·)) (h : ∀ k, k ∈ xs ↔ k ∈ ys) : xs = ys := by
  refine perm_le_eq ?_ (h1.imp fun h => by omega) (h2.imp fun h => by omega)
  exact (List.perm_ext_iff_of_nodup (h1.imp fun h => by omega) (h2.imp fun h => by omega)).mpr h
theorem setI_eq {xs ys : List Int} (h1 : ys.Pairwise (· < ·)) (h : ∀ k, k ∈ ys ↔ k ∈ xs) : ys = setI xs := lt_unique h1 (setI_lt xs) fun k => by rw [h, setI_mem]
theorem len_eraseDups : ∀ (n : Nat) (xs : List Int), xs.length ≤ n → xs.eraseDups.length ≤ xs.length
  | _, [], _ => by simp
  | 0, _ :: _, h => by simp at h
  | n + 1, x :: xs, h => by
    have h1 : (xs.filter fun b => !b == x).length ≤ xs.length := List.length_filter_le ..
    have h2 : xs.length + 1 ≤ n + 1 := h
    have h3 := len_eraseDups n (xs.filter fun b => !b == x) (by omega)
    rw [List.eraseDups_cons, List.length_cons, List.length_cons]
    omega
theorem setI_len (xs : List Int) : (setI xs).length ≤ xs.length := by
  unfold setI
  rw [sortI_len]
  exact len_eraseDups _ xs (Nat.le_refl _)
def setR' (xs : List Int) : Option (List Int) := if xs.length < 63 then some (setI xs) else none
abbrev nSet (w : World) : Obj := { cls := .type "set", dict := none, data := .set #[] 0 (.fresh 0 0 (!w.params.followText "set-order")) }
section
variable {P : Program} {w : World} {A : Around} {E : Value → Shared → Prop} {s : Shared}
set_option maxHeartbeats 8000000 in
theorem set_of_lst {l : Addr} {items : Array Value} (ns : List Int) {Q : Value → Shared → Prop} (hh : A.handled = none) (hl : s.heap.IsList l items) (hit : IntsAre items.toList ns) (hb : ns.length + 1 < scanBound)
    (h : ∀ (h' : Heap) (tk c : Nat), SetR w h' s.heap.objs.size (fun j => decide (j ∈ ns)) c → c ≤ ns.length → (∀ b o, s.heap.get? b = some o → h'.get? b = some o) → Q (.ref s.heap.objs.size) { s with heap := h', toks := tk }) :
    wpAny (model P w) A (call (.type "set") [.ref l]) Q E s := by
  have hz : items.size = ns.length := by rw [← IntsAre.length hit, Array.length_toList]
  obtain ⟨_, _, hmro⟩ := PySem.F.called_set.mro
  have hmade := PySem.F.called_set.made
  have hsub := PySem.F.called_set.sub
  refine wpAny_call (codeAny_of_tree ?_)
  show wpAny _ _ (callAny (.type "set") _) _ _ _
  refine wpAny_pure ⟨Code.quiet_builtin _ (by decide +kernel), codeAny_builtin PySem.F.entry_type_call ?_⟩
  rw [Around.under_plain (weight_type_call_type "set" [.ref l] []) rfl]
  have c1 := PySem.F.called_set.notType
  have c2 := PySem.F.called_set.canCreate
  have c3 := PySem.F.typeCall_set_1 (.ref l)
  repeat (any_goals (first | assumption | wp_step))
  refine codeAny_mono (code_set_led1 (.ref l) (E := E) (Q₁ := fun v t => v = .ref s.heap.objs.size ∧ t = { s with heap := s.heap.push (nSet w) }) ⟨rfl, rfl⟩) fun r t hr => ?_
  cases r with
  | error e => exact hr
  | ok fl =>
    cases fl with
    | ret v =>
      obtain ⟨rfl, rfl⟩ := hr
      have g0 : (s.heap.push (nSet w)).get? s.heap.objs.size = some (nSet w) := Heap.get?_push_size _ rfl
      have hT : Shared.TypeIs { s with heap := s.heap.push (nSet w) } (.ref s.heap.objs.size) "set" := ⟨_, g0, rfl⟩
      have hli := PySem.F.called_set.init.lookup
      have hbi := PySem.F.called_set.init.bind (.ref s.heap.objs.size)
      repeat (any_goals (first | assumption | wp_step))
      refine codeAny_mono (codeAny_call_builtin (R := wants (fun r t => r = .none ∧ ∃ h' tk c, t = { s with heap := h', toks := tk } ∧ SetR w h' s.heap.objs.size (fun j => decide (j ∈ ns)) c ∧ c ≤ ns.length ∧
          (∀ b o, s.heap.get? b = some o → h'.get? b = some o)) E) PySem.F.called_set.init.plain PySem.F.entry_set_init (check_set_init_1 hT ?_)) fun r t hr => ?_
      · obtain ⟨ol, hol, hcl, nl, hdl⟩ := hl
        obtain ⟨oc, od, dt, osl⟩ := ol
        simp only at hcl hdl
        subst hcl; subst hdl
        have hl1 : (s.heap.push (nSet w)).IsList l items := ⟨_, Heap.get?_push_of_some _ hol, rfl, nl, rfl⟩
        have q1 : (s.heap.push (nSet w)).get? l = _ := Heap.get?_push_of_some _ hol
        have q2 := PySem.F.sub_list_set
        have q3 := PySem.F.sub_list_frozenset
        have q4 : (Value.type "list" == Value.type "dict") = false := by decide
        unfold Builtin.«set.__init__» noKeywords Builtin.Frozenset.updateFrom
        generalize hPI : pyIter = PI
        wp_walk
        subst hPI
        refine wpAny_pyIter_list hl1 (wpAny_bind (wpAny_runValue ?_))
        have lt : l < s.heap.objs.size := Heap.lt_size hol
        have hh3 : A.in1.in1.in1.handled = none := by simp [hh]
        have z1 : (s.heap.push (nSet w)).objs.size = s.heap.objs.size + 1 := Heap.size_push ..
        have neI : l ≠ (s.heap.push (nSet w)).objs.size := by rw [z1]; exact Nat.ne_of_lt (Nat.lt_succ_of_lt lt)
        have nf : s.heap.objs.size ∉ [(s.heap.push (nSet w)).objs.size, l] := by
          rw [z1]
          intro q
          simp only [List.mem_cons, List.not_mem_nil, or_false] at q
          rcases q with q | q
          · exact absurd q (Nat.ne_of_lt (Nat.lt_succ_self _))
          · exact absurd q (Nat.ne_of_gt lt)
        have val : ∀ (i : Nat) (v : Value), items[i]? = some v → ∃ k t, ns[i]? = some k ∧ v = .int k t := fun i v hv => by
          have hi : i < ns.length := by rw [← hz]; exact (Array.getElem?_eq_some_iff.mp hv).1
          obtain ⟨t, e⟩ := PyProof.Rows.IntsAre.int_at hit i v (by rw [Array.getElem?_toList]; exact hv)
          refine ⟨ns[i], t, List.getElem?_eq_getElem hi, ?_⟩
          rw [e, List.getD_eq_getElem?_getD, List.getElem?_eq_getElem hi] <;> rfl
        refine set_update_ints ((Walks.list hh3 _ l neI items).toS) s.heap.objs.size nf ns hz hb val (items.size - 0) 0 _ (by omega) (Nat.zero_le _) ⟨⟨_, Heap.get?_push_size _ rfl, rfl, rfl⟩, hl1.push _⟩ ?_ ?_
        · exact ⟨0, Nat.le_refl 0, setR_new_at (Heap.get?_push_of_some _ g0)⟩
        · intro t c mv hc R
          obtain ⟨h', g2, d', tk', os'⟩ := t
          have e1 : g2 = s.gens := mv.gens
          have e2 : d' = s.drawn := mv.drawn
          have e3 : os' = s.os := mv.os
          subst e1; subst e2; subst e3
          show wpAny _ _ _ _ _ _
          refine wpAny_pure ?_
          show wpAny _ _ (ret Value.none) _ _ _
          rw [hz] at hc
          refine wpAny_pure ⟨rfl, h', tk', c, rfl, R, hc, fun b o e => ?_⟩
          have b0 : b < s.heap.objs.size := Heap.lt_size e
          refine mv.heap b o (fun q => ?_) (Heap.get?_push_of_some _ (Heap.get?_push_of_some _ e))
          simp only [List.mem_cons, List.not_mem_nil, or_false] at q
          rw [z1] at q
          rcases q with q | q
          · exact absurd q (Nat.ne_of_lt b0)
          · exact absurd q (Nat.ne_of_lt (Nat.lt_succ_of_lt b0))
      · cases r with
        | error e => exact hr
        | ok fl2 =>
          cases fl2 with
          | ret r =>
            obtain ⟨rfl, h', tk, c, rfl, R, hc, kk⟩ := hr
            repeat (any_goals (first | assumption | wp_step))
            exact h _ _ _ R hc kk
          | _ => exact hr.elim
    | _ => exact hr.elim
end
section
variable {X : Cx} {C : Ct} {ρ α β : Type} {Γ : En X.K} {e a b : Expr} {r : Option ρ} {pos p p2 p3 : Pos}
/-- set(a list of ints) -/
def rSetL (K : Frag) (w : World) : List V → Hp → VK → Prop := fun vs H Q => ∃ (l : Addr) (ns : List Int), vs = [V.ref l] ∧ SqL K H l (ns.map V.int) ∧ ns.length + 1 < scanBound ∧
  ∀ (p : Addr) (c : Nat), c ≤ ns.length → H p = none → Q (.ref p) (upd H p (SetO w p (fun j => decide (j ∈ ns)) c))
theorem cr_setL (hc : X.calm = true) : CallR X (.type "set") (rSetL X.K X.w) := by
  intro pins s σ H xs us Q I r h
  obtain ⟨l, ns, rfl, hl, hb, q⟩ := h
  rw [Vals.ref1 r]
  obtain ⟨its, rv, pl, hz⟩ := I.list hl
  refine set_of_lst (P := X.prog) ns (I.ok.hd hc) pl.isList (by simpa using rv.ints) hb fun h' tk c R hcn k => ?_
  exact ⟨.ref s.heap.objs.size, _, I.laid (t' := tk) k (Nat.le_refl _) (setO_new R), rfl, q _ c hcn (I.hok.fresh (Nat.le_refl _))⟩
theorem n_sorted : CallN X (.builtin "sorted") (tc1 (cLst cInt)) (lstC cInt) fun x => some (sortI x) := ⟨_, cr_sortedI, fun W H vs x z Q sb h e k => by
  obtain ⟨v, rfl, ad, ws, rfl, h2, h3⟩ := h; cases e
  rw [h3.ints] at h2
  exact ⟨ad, x, rfl, SqL.of (sb _ _ h2), fun ns' p pm le hp => k p _ hp ⟨_, rfl, by rw [sortI_eq pm le]; exact Row.of_ints _⟩⟩⟩
theorem n_sortedS : CallN X (.builtin "sorted") (tc1 (cSeq cInt)) (lstC cInt) fun x => (none : Option (List Int)) := ⟨fun _ _ _ => False, fun _ _ _ _ _ _ _ _ _ h => h.elim, fun W H vs x z Q sb h e k => nomatch e⟩
theorem ef_callBT {x : Str} {id : String} {es : List Expr} {t : TC X.K α} {c : Cel X.K β} {g : α → β} {J : β → En X.K → Option ρ → Prop} (o : CallN X (.builtin id) t c fun x => some (g x)) (hm : X.mg x = none) (hv : bootBuiltins x = some (.builtin id))
    (h : EA X C Γ (e :: es) t r fun x Γ1 r1 => J (g x) Γ1 r1) (hg : Gl X x := by rfl) (hn : x ≠ "__name__" := by decide) (hdb : (x == ("__debug__" : Str)) = false := by decide)
    (he : starEach (e :: es) X.env = (false, eval e X.env) :: starEach es X.env := by rfl) (hpl : (backTo pos (starEach es X.env)).any (·.1) = false := by rfl) : EF X C Γ (.Call (.Name x p) (e :: es) [] pos) c r J := .mk fun z σ W H Q s hr k => by
  obtain ⟨rr, hc, hf⟩ := o
  exact w_pe (pe_callB hc hg hm hv pa_w hn hdb he hpl) (CallN.useT (f := .builtin id) hf h s hr k)
theorem bt_sorted : bootBuiltins "sorted" = some (.builtin "sorted") := by decide +kernel
theorem bt_set : bootBuiltins "set" = some (.type "set") := by decide +kernel
theorem bt_reversed : bootBuiltins "reversed" = some (.type "reversed") := by decide +kernel
/-- sorted(set(e)) -/
theorem ef_sortSet {J : List Int → En X.K → Option ρ → Prop} (hcalm : X.calm = true) (hm : X.mg "sorted" = none) (hm2 : X.mg "set" = none)
    (h : EX X C Γ a (cLst cInt) r fun x Γ1 r1 => ∃ k, r1 = setR' x >>= k ∧ ∀ z, J z Γ1 (k z)) (hg : Gl X "sorted" := by rfl) (hg2 : Gl X "set" := by rfl)
    (na : starEach [a] X.env = (false, eval a X.env) :: starEach [] X.env := by rfl)
    (na2 : starEach [.Call (.Name "set" p2) [a] [] p3] X.env = (false, eval (.Call (.Name "set" p2) [a] [] p3) X.env) :: starEach [] X.env := by rfl) :
    EF X C Γ (.Call (.Name "sorted" p) [.Call (.Name "set" p2) [a] [] p3] [] pos) (lstC cInt) r J := .mk fun z σ W H Q s hr k =>
  w_pe (pe_callB (cr_sortedSet hcalm) hg hm bt_sorted (pa_cons (pe_callTy (cr_setL hcalm) hg2 hm2 bt_set (pa_cons pe_w pa_nil na) (by decide) (by decide) na rfl) pa_nil na2) (by decide) (by decide) na2 rfl)
    (h z σ W H _ s hr fun x Γ1 r1 W1 H1 v j1 hr1 s1 w1 q1 => by
      obtain ⟨k2, e2, j2⟩ := j1
      rw [e2] at hr1
      obtain ⟨t, et, ht⟩ := bind_some hr1
      unfold setR' at et
      split at et
      · rename_i hl
        cases et
        obtain ⟨ad, ws, rfl, h2, h3⟩ := q1
        rw [h3.ints] at h2
        refine ⟨ad, x, rfl, SqL.of (s1.sub _ _ h2), by unfold scanBound; omega, fun q c hc hq => ⟨q, _, c, rfl, upd_same, by omega, fun ns q2 lt mem hlen hq2 => ?_⟩⟩
        have en : ns = setI x := setI_eq lt fun k => by rw [mem]; simp
        have G : Grow W1 H1 W1 (upd H1 q (SetO X.w q (fun j => decide (j ∈ x)) c)) := ⟨Same.refl _, fun b u e => by rw [upd_ne (ne_of_none e hq)]; exact e, fun b u e => by
          have := s1.sub _ _ e
          rw [upd_ne (ne_of_none this hq)]; exact this, fun _ _ h => h⟩
        have s2 := s1.grow G
        obtain ⟨s3, wl, cl, ap, la⟩ := s2.fresh (o := .lst (ns.map V.int)) hq2
        exact k _ Γ1 _ W1 _ q2 _ (j2 _) ht s3 w1 wl cl upd_same ⟨_, rfl, by rw [en]; exact Row.of_ints _⟩ ap la
      · cases et)
/-! ### a dict of the text -/
def dkR (kvs : List (Str × α)) (z : Str) : Option α := kvs.lookup z
theorem ex_kd {c : Cod X.K α} {kvs : List (Str × α)} {n : Str} {ad : Addr} {J : α → En X.K → Option ρ → Prop} (hm : X.mg n = some (.ref ad)) (hk : ∀ z x, dkR kvs z = some x → ∃ v, KDct X.K X.w ad z v ∧ ∀ W, c.rp W v x)
    (h : EX X C Γ e cStr r fun z Γ1 r1 => ∃ k, r1 = dkR kvs z >>= k ∧ ∀ y, J y Γ1 (k y)) (hg : Gl X n := by rfl) (hd : (n == ("__debug__" : Str)) = false := by decide) (hp : PlainIx e := by exact fun _ _ => rfl) :
    EX X C Γ (.Subscript (.Name n p) e pos) c r J := .mk fun z σ W H Q s hr k =>
  w_pe (pe_ix ix_kdict (pe_glob hg hm (show RelV (V.ref ad) (Value.ref ad) from rfl) hd) pe_w hp) (h z σ W H _ s hr fun x Γ1 r1 W1 H1 v j1 hr1 s1 w1 q1 => by
    obtain ⟨k2, e2, j2⟩ := j1
    rw [e2] at hr1
    obtain ⟨t, et, ht⟩ := bind_some hr1
    obtain ⟨u, hu, hc⟩ := hk x t et
    exact ⟨ad, x, u, rfl, q1, hu, k t Γ1 _ W1 H1 u (j2 t) ht s1 w1 (hc W1)⟩)
end
end Ty

set_option maxHeartbeats 4000000
namespace Ty
open PySem PySem.Spec PyProof.Rows L2
theorem lookup_mem' {α : Type} {z : Str} {x : α} : ∀ {l : List (Str × α)}, l.lookup z = some x → (z, x) ∈ l
  | [], h => by cases h
  | (k, y) :: l, h => by
    unfold List.lookup at h
    split at h
    · rename_i q
      cases h
      rw [beq_iff_eq.mp q]
      exact List.mem_cons_self
    · exact List.mem_cons_of_mem _ (lookup_mem' h)
/-- a dict of the text: texts to ints -/
theorem kdI_ok {w : World} {K : Frag} {h : Heap} {mg : Str → Option Value} (X : K.In h) (G : h.Ns mainGlobals mg) {x : Str} {kvs : List (Str × Int)} (c : (He.Fa.glo x).ok K = true) (d : ∃ es n, KDict K w (He.ga K x) es n)
    (q : He.valsB K (He.ga K x) (kvs.map fun p => (p.1, He.Dv.int p.2)) = true) :
    ∃ ad : Addr, mg x = some (.ref ad) ∧ ∀ z y, dkR kvs z = some y → ∃ v, KDct K w ad z v ∧ ∀ W, (cInt : Cod K Int).rp W v y := by
  obtain ⟨es, n, D⟩ := d
  refine ⟨_, He.glo_ok X G c, fun z y e => ?_⟩
  have m := lookup_mem' (show kvs.lookup z = some y from e)
  obtain ⟨u, h1, h2⟩ := He.valsB_ok q (q := (z, He.Dv.int y)) (List.mem_map.mpr ⟨_, m, rfl⟩)
  exact ⟨.int y, ⟨es, n, u, D.at_, D.lit, h1, h2⟩, fun _ => rfl⟩
section
variable {X : Cx} {C : Ct} {ρ α β : Type} {Γ : En X.K} {e a b : Expr} {r : Option ρ} {x : Str} {pos p p2 p3 : Pos}
theorem ex_call0 {c : Cod X.K β} {f : Unit → Option β} {J : β → En X.K → Option ρ → Prop} {k : Nat} {ps : List Str} (F : FnP X.prog X.w X.K X.mg X.base x k ps (spP X.K tc0 f c)) (hr : Room k X.A)
    (h : ∃ k, r = f () >>= k ∧ ∀ z, J z Γ (k z)) (hg : Gl X x := by rfl) (hdb : (x == ("__debug__" : Str)) = false := by decide) : EX X C Γ (.Call (.Name x p) [] [] pos) c r J := .mk fun z σ W H Q s hrr kk => by
  obtain ⟨fa, fd, h1, h2, h3, h4⟩ := F.ex
  refine w_pe (pe_call0 h4 hr hg h1 h2 h3 .nil pass0 hdb) ?_
  obtain ⟨k2, e2, j2⟩ := h
  rw [e2] at hrr
  obtain ⟨t2, et, ht⟩ := bind_some hrr
  exact ⟨W, (), s.sub, rfl, t2, et, fun W2 H2 v G q2 => kk t2 Γ _ W2 H2 v (j2 t2) ht (s.grow G) G.w q2⟩
theorem ef_call0 {c : Cel X.K β} {f : Unit → Option β} {J : β → En X.K → Option ρ → Prop} {k : Nat} {ps : List Str} (F : FnP X.prog X.w X.K X.mg X.base x k ps (spN X.K tc0 f c)) (hr : Room k X.A)
    (h : ∃ k, r = f () >>= k ∧ ∀ z, J z Γ (k z)) (hg : Gl X x := by rfl) (hdb : (x == ("__debug__" : Str)) = false := by decide) : EF X C Γ (.Call (.Name x p) [] [] pos) c r J := .mk fun z σ W H Q s hrr kk => by
  obtain ⟨fa, fd, h1, h2, h3, h4⟩ := F.ex
  refine w_pe (pe_call0 h4 hr hg h1 h2 h3 .nil pass0 hdb) ?_
  obtain ⟨k2, e2, j2⟩ := h
  rw [e2] at hrr
  obtain ⟨t2, et, ht⟩ := bind_some hrr
  refine ⟨W, (), s.sub, rfl, t2, et, fun W2 H2 p o G wp hp h2p ct => ?_⟩
  have cp : C.H p = none := by
    cases q : C.H p with
    | none => rfl
    | some u => exact absurd hp (s.li p (by rw [q]; simp))
  exact kk t2 Γ _ W2 H2 p o (j2 t2) ht (s.grow G) G.w wp cp h2p ct (s.apart hp) fun z => s.lb p (.inr z) hp
end
end Ty

set_option maxHeartbeats 4000000
namespace Ty
open PySem PySem.Spec PyProof.Rows L2
section
variable {X : Cx} {C : Ct} {ρ α β γ : Type} {Γ : En X.K} {e a b tg : Expr} {es : List Expr} {r : Option ρ} {x n : Str} {pos p p2 p3 : Pos}
/-! ### texts -/
def catT (a b : Str) : Option Str := if a.length + b.length ≤ 16000000 then some (a ++ b) else none
theorem o_catT : Op2 X (binaryOp .Add) cStr cStr cStr catT := ⟨_, op_add_str, fun W H x y v u z Q sb h1 h2 e k => by
  cases h1; cases h2
  unfold catT at e
  split at e
  · rename_i h
    cases e
    exact ⟨x, y, rfl, rfl, Nat.le_trans h (by decide), k _ W H (Grow.refl sb) rfl⟩
  · cases e⟩
def lenT (a : Str) : Option Int := if a.length ≤ 16000000 then some (a.length : Int) else none
theorem b_lenT : CallB X (.builtin "len") (tc1 cStr) cInt lenT := ⟨_, call_len_str, fun W H vs x z Q sb h e k => by
  obtain ⟨v, rfl, h⟩ := h; cases h
  unfold lenT at e
  split at e
  · rename_i hl
    cases e
    exact ⟨x, rfl, Nat.le_trans hl (by decide), k _ W H (Grow.refl sb) rfl⟩
  · cases e⟩
def strI (i : Int) : Option Str := if i.natAbs.log2 < 1920 then some (toString i : String) else none
theorem b_strI : CallB X (.type "str") (tc1 cInt) cStr strI := ⟨_, call_str_int, fun W H vs x z Q sb h e k => by
  obtain ⟨v, rfl, h⟩ := h; cases h
  unfold strI at e
  split at e
  · rename_i hl
    cases e
    exact ⟨x, rfl, hl, k _ W H (Grow.refl sb) rfl⟩
  · cases e⟩
def atT (z : Str) (i : Int) : Option Str := if z.length ≤ 16000000 then (atI z.cps.toList i).map fun c => (⟨#[c]⟩ : Str) else none
theorem ex_ixStr {J : Str → En X.K → Option ρ → Prop} (h : EX X C Γ a cStr r fun x Γ1 r1 => EX X C Γ1 b cInt r1 fun i Γ2 r2 => ∃ k, r2 = atT x i >>= k ∧ ∀ z, J z Γ2 (k z)) (hp : PlainIx b := by exact fun _ _ => rfl) :
    EX X C Γ (.Subscript a b pos) cStr r J := .mk fun z σ W H Q s hr k =>
  w_pe (pe_ix ix_str pe_w pe_w hp) (h z σ W H _ s hr fun x Γ1 r1 W1 H1 v j1 hr1 s1 w1 q1 => j1 z σ W1 H1 _ s1 hr1 fun i Γ2 r2 W2 H2 u j2 hr2 s2 w2 q2 => by
    cases q1; cases q2
    obtain ⟨k2, e2, j2⟩ := j2
    rw [e2] at hr2
    obtain ⟨t, et, ht⟩ := bind_some hr2
    unfold atT at et
    split at et
    · rename_i hl
      cases hc : atI x.cps.toList i with
      | none => rw [hc] at et; cases et
      | some c =>
        rw [hc] at et
        cases et
        exact ⟨x, i, c, rfl, rfl, Nat.le_trans hl (by decide), hc, k _ Γ2 _ W2 H2 _ (j2 _) ht s2 (w1.trans w2) rfl⟩
    · cases et)
theorem b_intB : CallB X (.type "int") (tc1 cBool) cInt fun x => some (if x then 1 else 0) := ⟨_, call_int1, fun W H vs x z Q sb h e k => by
  obtain ⟨v, rfl, h⟩ := h; cases h; cases e; exact .inr ⟨x, rfl, k _ W H (Grow.refl sb) rfl⟩⟩
/-! ### equal at large -/
mutual
def U.dat : U → Option PyData
  | .non => some .none
  | .bl b => some (.bool b)
  | .int i => some (.int i)
  | .str s => some (.str s)
  | .tup l => (U.dats l).map .tuple
  | .lst l => (U.dats l).map .list
  | .opq => none
def U.dats : List U → Option (List PyData)
  | [] => some []
  | u :: us => (U.dat u).bind fun d => (U.dats us).map fun ds => d :: ds
end
mutual
theorem dp_of {K : Frag} {W H : Hp} (sb : Same W H) : ∀ {u : U} {v : V} {d : PyData}, rpU K W u v → U.dat u = some d → Dp K H v d
  | .non, _, _, h, e => by cases h; cases e; exact .non
  | .bl b, _, _, h, e => by cases h; cases e; exact .bl b
  | .int i, _, _, h, e => by cases h; cases e; exact .int i
  | .str s, _, _, h, e => by cases h; cases e; exact .str s
  | .tup l, _, d, ⟨a, vs, h1, h2, h3⟩, e => by
    cases q : U.dats l with
    | none => simp [U.dat, q] at e
    | some ds =>
      simp [U.dat, q] at e
      subst h1 e
      exact .tup (Same.tup sb h2) (dps_of sb h3 q)
  | .lst l, _, d, ⟨a, vs, h1, h2, h3⟩, e => by
    cases q : U.dats l with
    | none => simp [U.dat, q] at e
    | some ds =>
      simp [U.dat, q] at e
      subst h1 e
      exact .lst (SqL.of (sb _ _ h2)) (dps_of sb h3 q)
  | .opq, _, _, _, e => by cases e
theorem dps_of {K : Frag} {W H : Hp} (sb : Same W H) : ∀ {us : List U} {vs : List V} {ds : List PyData}, rpUs K W us vs → U.dats us = some ds → DpAll K H vs ds
  | [], _, _, h, e => by cases h; cases e; exact .nil
  | u :: us, _, ds, ⟨v, r, h1, h2, h3⟩, e => by
    subst h1
    cases q : U.dat u with
    | none => simp [U.dats, q] at e
    | some d =>
      cases q2 : U.dats us with
      | none => simp [U.dats, q, q2] at e
      | some ds2 =>
        simp [U.dats, q, q2] at e
        subst e
        exact .cons (dp_of sb h2 q) (dps_of sb h3 q2)
end
def U.eqP (x y : U) : Option Bool := x.dat >>= fun d => y.dat >>= fun e => if SeqAt.shaped d = true ∧ SeqAt.shaped e = true then some (PyData.eqv d e) else none
theorem eqP_use {x y : U} {z : Bool} (h : U.eqP x y = some z) : ∃ d e, x.dat = some d ∧ y.dat = some e ∧ SeqAt.shaped d = true ∧ SeqAt.shaped e = true ∧ z = PyData.eqv d e := by
  obtain ⟨d, h1, h2⟩ := bind_some h
  obtain ⟨e, h3, h4⟩ := bind_some h2
  split at h4
  · rename_i hs
    cases h4
    exact ⟨d, e, h1, h3, hs.1, hs.2, rfl⟩
  · cases h4
theorem o_eqD (hu : X.A.units + 64 < cLine) : Op2 X (compareOp .Eq) cU cU cBool U.eqP := ⟨_, op_eqD hu, fun W H x y v u z Q sb h1 h2 e k => by
  obtain ⟨d, e', q1, q2, q3, q4, rfl⟩ := eqP_use e
  exact ⟨d, e', dp_of sb h1 q1, dp_of sb h2 q2, q3, q4, k _ W H (Grow.refl sb) rfl⟩⟩
def U.neP (x y : U) : Option Bool := (U.eqP x y).map fun b => !b
theorem o_neD (hu : X.A.units + 64 < cLine) : Op2 X (compareOp .NotEq) cU cU cBool U.neP := ⟨_, op_neD hu, fun W H x y v u z Q sb h1 h2 e k => by
  unfold U.neP at e
  cases q : U.eqP x y with
  | none => rw [q] at e; cases e
  | some b =>
    rw [q] at e; cases e
    obtain ⟨d, e', q1, q2, q3, q4, rfl⟩ := eqP_use q
    exact ⟨d, e', dp_of sb h1 q1, dp_of sb h2 q2, q3, q4, k _ W H (Grow.refl sb) rfl⟩⟩
/-! ### in what a name owns -/
theorem ex_inO [DecidableEq α] {c : Cod X.K α} (f : Flat c) {y : List α} {J : Bool → En X.K → Option ρ → Prop} (i : Nat) (h : EX X C Γ a c r fun x Γ1 r1 => Γ1[i]? = some (.ow (lstC c) y) ∧ J (decide (x ∈ y)) Γ1 r1) (hN : X.N[i]? = some n := by rfl)
    (hv : Vis X.env.scope n := by first | exact Or.inl rfl | exact Or.inr (Or.inl rfl) | exact Or.inr (Or.inr rfl)) (hm : behindInMarks .In (.Name n p) = false := by first | exact nomark _ | rfl) (hd : (n == ("__debug__" : Str)) = false := by decide) (hcd : (n == ("__classdict__" : Str)) = false := by decide) :
    EX X C Γ (.Compare a [.In] [.Name n p] pos) cBool r J := .mk fun z σ W H Q s hr k =>
  w_pe (pe_cmpR op_in_seq pe_w (pe_var hN hv hd hcd) hm) (h z σ W H _ s hr fun x Γ1 r1 W1 H1 v j1 hr1 s1 w1 q1 => by
    obtain ⟨g1, j1⟩ := j1
    obtain ⟨ad, o, e1, e4, vs, rfl, rw1⟩ := s1.seen g1
    exact ⟨_, e1, ad, vs, rfl, .inl (SqL.of e4), f.fl q1, rw1.flat f, by rw [rw1.inV f q1]; exact k _ Γ1 r1 W1 H1 _ j1 hr1 s1 w1 rfl⟩)
theorem ex_niO [DecidableEq α] {c : Cod X.K α} (f : Flat c) {y : List α} {J : Bool → En X.K → Option ρ → Prop} (i : Nat) (h : EX X C Γ a c r fun x Γ1 r1 => Γ1[i]? = some (.ow (lstC c) y) ∧ J (!decide (x ∈ y)) Γ1 r1) (hN : X.N[i]? = some n := by rfl)
    (hv : Vis X.env.scope n := by first | exact Or.inl rfl | exact Or.inr (Or.inl rfl) | exact Or.inr (Or.inr rfl)) (hm : behindInMarks .NotIn (.Name n p) = false := by first | exact nomark _ | rfl) (hd : (n == ("__debug__" : Str)) = false := by decide) (hcd : (n == ("__classdict__" : Str)) = false := by decide) :
    EX X C Γ (.Compare a [.NotIn] [.Name n p] pos) cBool r J := .mk fun z σ W H Q s hr k =>
  w_pe (pe_cmpR op_notIn_seq pe_w (pe_var hN hv hd hcd) hm) (h z σ W H _ s hr fun x Γ1 r1 W1 H1 v j1 hr1 s1 w1 q1 => by
    obtain ⟨g1, j1⟩ := j1
    obtain ⟨ad, o, e1, e4, vs, rfl, rw1⟩ := s1.seen g1
    exact ⟨_, e1, ad, vs, rfl, .inl (SqL.of e4), f.fl q1, rw1.flat f, by rw [rw1.inV f q1]; exact k _ Γ1 r1 W1 H1 _ j1 hr1 s1 w1 rfl⟩)
/-! ### a list or a tuple -/
def cRow {K : Frag} {α : Type} (c : Cod K α) : Cod K (List α) :=
  ⟨fun H v x => ∃ a vs, v = .ref a ∧ (H a = some (.lst vs) ∨ SqT K H a vs) ∧ Row c H vs x, fun _ => .opq, fun e ⟨a, vs, h, q, q2⟩ => ⟨a, vs, h, q.imp (e _ _) (Same.tup e), q2.mono e⟩, fun _ => trivial⟩
theorem ex_rowL {c : Cod X.K α} {J : List α → En X.K → Option ρ → Prop} (h : EX X C Γ e (cLst c) r J) : EX X C Γ e (cRow c) r J := ex_as (c := cLst c) (c' := cRow c) (fun x => x) (fun ⟨a, vs, h, q, q2⟩ => ⟨a, vs, h, .inl q, q2⟩) h
theorem ex_rowS {c : Cod X.K α} {J : List α → En X.K → Option ρ → Prop} (h : EX X C Γ e (cSeq c) r J) : EX X C Γ e (cRow c) r J := ex_as (c := cSeq c) (c' := cRow c) (fun x => x) (fun ⟨a, vs, h, q, q2⟩ => ⟨a, vs, h, .inr q, q2⟩) h
theorem n_listR {c : Cod X.K α} : CallN X (.type "list") (tc1 (cRow c)) (lstC c) fun x => some x := ⟨_, call_list_of, fun W H vs x z Q sb h e k => by
  obtain ⟨v, rfl, ad, ws, rfl, h2, h3⟩ := h; cases e
  exact ⟨ad, ws, rfl, h2.imp (fun q => SqL.of (sb _ _ q)) (Same.tup sb), fun l hl => k l _ hl ⟨ws, rfl, h3⟩⟩⟩
theorem b_lenR {c : Cod X.K α} : CallB X (.builtin "len") (tc1 (cRow c)) cInt fun x => some (x.length : Int) := ⟨_, call_len_seq, fun W H vs x z Q sb h e k => by
  obtain ⟨v, rfl, ad, ws, rfl, h2, h3⟩ := h; cases e; rw [← h3.length] at k; exact ⟨ad, ws, rfl, h2.imp (fun q => SqL.of (sb _ _ q)) (Same.tup sb), k _ W H (Grow.refl sb) rfl⟩⟩
/-! ### zip -/
theorem pa_wL : PA X es fun σ H Q => wpa X es σ H fun vs H' => LenOk H' → Q vs H' := ⟨fun pos pins s σ H Q I h => thn (h pos pins s I) fun us s1 ⟨vs, H1, I1, r1, q1⟩ => ⟨vs, H1, I1, r1, q1 (lenOk_of I1.hok)⟩⟩
theorem ei_zipT {elts : List Expr} {kk : Nat} {tpos : Pos} {c : Cod X.K α} {d : Cod X.K β} {J : List (α × β) → En X.K → Option ρ → Prop} (hm : X.mg "zip" = none)
    (h : EA X C Γ [a, b] (tcC (cSeq c) (tc1 (cSeq d))) r fun x Γ1 r1 => J (x.1.zip x.2) Γ1 r1) (hg : Gl X "zip" := by rfl)
    (hs : starEach [a, b] X.env = (false, eval a X.env) :: starEach [b] X.env := by rfl) (hpl : (backTo pos (starEach [b] X.env)).any (·.1) = false := by rfl) :
    EI X C Γ (.Tuple elts kk tpos) (.Call (.Name "zip" p) [a, b] [] pos) (cTup (tcC c (tc1 d))) r J := .mk fun z σ W H R s hr k =>
  w_pi (RZ.pi_zipA hg hm pa_wL hs hpl) (h z σ W H _ s hr fun x Γ1 r1 W1 H1 vs j1 hr1 s1 w1 q1 lo => by
    obtain ⟨v1, r', rfl, ⟨a1, xs, rfl, h2, h3⟩, v2, rfl, ⟨a2, ys, rfl, h4, h5⟩⟩ := q1
    have hz : (xs.zip ys).length = (x.1.zip x.2).length := by rw [List.length_zip, List.length_zip, h3.length, h5.length]
    refine ⟨a1, a2, xs, ys, rfl, .inr ⟨Same.tup s1.sub h2, Same.tup s1.sub h4, k _ Γ1 r1 W1 H1 _ j1 hr1 s1 w1 ⟨?_, fun i W2 H2 w2 sb => ?_⟩⟩⟩
    · rw [List.length_zip, ← h3.length]
      exact Nat.le_trans (Nat.min_le_left ..) (sqt_len lo (Same.tup s1.sub h2))
    · have t1 : SqT X.K H2 a1 xs := Same.tup sb (Same.tup w2 h2)
      have t2 : SqT X.K H2 a2 ys := Same.tup sb (Same.tup w2 h4)
      rw [List.length_zip]
      refine ⟨fun hi => ⟨xs, ys, t1, t2, ?_⟩, fun hi => ?_⟩
      · rw [h3.length, h5.length]; omega
      obtain ⟨l1, l2⟩ : i < x.1.length ∧ i < x.2.length := by omega
      obtain ⟨v, e1, e2⟩ := h3.get (i := i) (x := x.1[i]) (by simp [l1])
      obtain ⟨u, e3, e4⟩ := h5.get (i := i) (x := x.2[i]) (by simp [l2])
      refine ⟨⟨xs, ys, v, u, t1, t2, e1, e3⟩, fun w H' ⟨T, v', u', ew, hT, eH, y1, y2⟩ => ?_⟩
      have y1 := y1 xs t1
      have y2 := y2 ys t2
      rw [e1] at y1; cases y1
      rw [e3] at y2; cases y2
      subst ew eH
      have G := Grow.new (o := .tup [v, u]) sb hT
      exact ⟨_, (x.1[i], x.2[i]), G, List.getElem?_zip_eq_some.mpr ⟨by simp [l1], by simp [l2]⟩, T, [v, u], rfl, SqT.of upd_same, v, [u], rfl, c.mono (w2.trans G.w) e2, u, rfl, d.mono (w2.trans G.w) e4⟩)
end
end Ty

set_option maxHeartbeats 4000000
namespace Ty
open PySem PySem.Spec PyProof.Rows L2
/-! ### comprehensions of two fors (without a state) -/
section
variable {α β γ : Type}
def lc2G (t : α → Option Bool) (g : α → Option (List β)) (t1 : α → β → Option Bool) (f : α → β → Option γ) : List α → Option (List γ)
  | [] => some []
  | x :: xs => t x >>= fun b => cond b (g x >>= fun ys => fltR (t1 x) (f x) ys >>= fun zs => lc2G t g t1 f xs >>= fun rest => some (zs ++ rest)) (lc2G t g t1 f xs)
def lc2R (t : α → Option Bool) (g : α → Option (List β)) (t1 : α → β → Option Bool) (f : α → β → Option γ) (xs : List α) : Option (List γ) :=
  lc2G t g t1 f xs >>= fun zs => if zs.length ≤ 16000000 then some zs else none
end
theorem wipe_idem (vs us : List Nat) (τ : L2.St) (hs : ∀ i ∈ us, i ∈ vs) : L2.wipe (L2.wipe τ us) vs = L2.wipe τ vs := by
  apply List.ext_getElem?
  intro j
  have one : ∀ (τ : L2.St) (vs : List Nat), j ∈ vs → (L2.wipe τ vs)[j]? = if j < τ.length then some none else none := by
    intro τ vs
    induction vs with
    | nil => intro h; cases h
    | cons v vs ih =>
      intro hm
      show ((L2.wipe τ vs).set v none)[j]? = _
      by_cases hv : j = v
      · subst hv
        rw [List.getElem?_set]
        simp [wipe_length]
      · rw [List.getElem?_set_ne (Ne.symm hv)]
        exact ih ((List.mem_cons.mp hm).resolve_left hv)
  by_cases hj : j ∈ vs
  · rw [one _ vs hj, one _ vs hj, wipe_length]
  · rw [wipe_get hj, wipe_get hj, wipe_get fun z => hj (hs j z)]
section
variable {K : Frag} {C : Ct} {Γ : En K} {σ : L2.St} {W H W' H' : Hp}
/-- behind a part that ran in a context of its own: what is no one's stands as before -/
theorem Sat.guard {Γ' : En K} {σ' : L2.St} {D : Addr} {o : HO} (s : Sat C Γ σ W H) (hD : H D = some o) (wD : W D = none) (cD : C.H D = none) (bD : ¬ C.B D) (ap : Apart Γ σ D) (la : C.a ≠ some D) (q : Sat (inner C Γ σ W H) Γ' σ' W' H') :
    Sat C Γ' σ' W' H' ∧ H' D = some o ∧ W' D = none ∧ Apart Γ' σ' D := by
  have nB : ¬ (inner C Γ σ W H).B D := fun z => by
    rcases z with z | ⟨j, oj, ej⟩
    · exact bD z
    · exact ap j oj ej
  refine ⟨s.outof q, q.fr D _ hD nB la, q.nw D (by show H D ≠ none; rw [hD]; simp) wD, fun j oj ej => ?_⟩
  obtain ⟨ee, h1, h2⟩ := oj
  cases ee with
  | no => cases h2
  | im c x => cases h2
  | ow c x =>
    obtain ⟨ad, o', e1, e2, e3, e4, e5⟩ := q.sl j _ h1
    have ea := getD_some e1
    rw [ej] at ea; cases ea
    rcases e3 with e3 | e3
    · rw [show (inner C Γ σ W H).H D = H D from rfl, hD] at e3; cases e3
    · exact nB e3
  | lp => cases h2
  | ln c x => cases h2
end
section
variable {X : Cx} {C : Ct} {ρ α β γ : Type} {Γ : En X.K} {tg elt e tg1 e1 : Expr} {ifs ifs1 : List Expr} {r : Option ρ} {scope : Scope} {own' : List (Str × Nat)} {pos p p2 p3 : Pos}
def LC2 (X : Cx) (C : Ct) {ρ γ : Type} (Γ : En X.K) (elt tg e : Expr) (ifs : List Expr) (tg1 e1 : Expr) (ifs1 : List Expr) (scope : Scope) (d : Cod X.K γ) (r : Option ρ) (J : List γ → En X.K → Option ρ → Prop) : Prop :=
  ∃ (own' : List (Str × Nat)) (vs1 : List Nat) (wi wi1 : TI) (g g1 : TG) (tt tt1 : TT) (te : TE), BlkOk X.N X.env.scope scope own' ∧ (∀ i ∈ vs1, i ∈ own'.map (·.2)) ∧ PI X tg e wi ∧ (∀ sh H Cc cl fp, PG (bx X scope sh H Cc cl fp) tg g) ∧ (∀ sh H Cc cl fp, PTs (bx X scope sh H Cc cl fp) ifs tt) ∧
    (∀ sh H Cc cl fp, PI (bx X scope sh H Cc cl fp) tg1 e1 wi1) ∧ (∀ sh H Cc cl fp, PG (bx X scope sh H Cc cl fp) tg1 g1) ∧ (∀ sh H Cc cl fp, PTs (bx X scope sh H Cc cl fp) ifs1 tt1) ∧ (∀ sh H Cc cl fp, PE (bx X scope sh H Cc cl fp) elt te) ∧
    (∀ x, foldedSetIterable e X.env x = pure x) ∧ (∀ env x, foldedSetIterable e1 env x = pure x) ∧
    ∀ (z : ρ) σ W H (Q : VK), Sat C Γ σ W H → r = some z →
      (∀ x Γ' r' W' H' p o, J x Γ' r' → r' = some z → Sat C Γ' σ W' H' → Same W W' → W' p = none → C.H p = none → H' p = some o → (lstC d).ct W' o x → Apart Γ' σ p → C.a ≠ some p → Q (.ref p) H') → tLc2 wi g tt wi1 g1 tt1 te (own'.map (·.2)) vs1 σ H Q
theorem ef_lc2 {d : Cod X.K γ} {J : List γ → En X.K → Option ρ → Prop} (hc : X.calm = true) (hnd : X.N.Nodup) (h : LC2 X C Γ elt tg e ifs tg1 e1 ifs1 scope d r J) : EF X C Γ (.ListComp elt [⟨tg, e, ifs, 0⟩, ⟨tg1, e1, ifs1, 0⟩] scope pos) (lstC d) r J := by
  obtain ⟨own', vs1, wi, wi1, g, g1, tt, tt1, te, ok, hv, hi, hg, ht, hi1, hg1, ht1, he, hs, hs1, hq⟩ := h
  exact .mk fun z σ W H Q s hr k => w_pe (pe_lc2 hc hnd hi ok hv hg ht hi1 hg1 ht1 he hs hs1) (hq z σ W H Q s hr k)
theorem gs_setLc2 {β' ρ' : Type} {r : Option β'} {T : Go X.K ρ' β'} {d : Cod X.K γ} {y : Str} {py spos : Pos} (i : Nat) (hc : X.calm = true) (hnd : X.N.Nodup) (h : LC2 X C Γ elt tg e ifs tg1 e1 ifs1 scope d r fun x Γ1 r1 => T.nx (Γ1.set i (.ow (lstC d) x)) r1) (hy : X.N[i]? = some y := by rfl) (hyl : X.env.scope.names.lookup y = some .local := by rfl)
    (hsw : swapsWith (.ListComp elt [⟨tg, e, ifs, 0⟩, ⟨tg1, e1, ifs1, 0⟩] scope pos) (some (.Name y py)) spos.line X.env = pure true := by exact sw_true rfl rfl rfl (by decide +kernel)) : GK X C (wpS X (.Assign [.Name y py] (.ListComp elt [⟨tg, e, ifs, 0⟩, ⟨tg1, e1, ifs1, 0⟩] scope pos) spos)) Γ r T := by
  obtain ⟨own', vs1, wi, wi1, g, g1, tt, tt1, te, ok, hv, hi, hg, ht, hi1, hg1, ht1, he, hs, hs1, hq⟩ := h
  exact GK.mk fun z σ W H D s hr kn kb kc kr pins sh I => by
    have hl : i < σ.length := set_len (n := 0) I.len hy
    exact (ps_setLc2 hc hnd hy hyl hsw hi ok hv hg ht hi1 hg1 ht1 he hs hs1).run pins sh σ H D I (hq z σ W H _ s hr fun x Γ1 r1 W1 H1 p o j1 hr1 s1 w1 wp cp hp ct ap la => kn _ r1 _ W1 H1 j1 hr1 (s1.take hl wp (.inl cp) hp ct ap la) w1)
theorem gs_setLc2V {β' ρ' : Type} {r : Option β'} {T : Go X.K ρ' β'} {d : Cod X.K γ} {y : Str} {py spos : Pos} (i : Nat) (hc : X.calm = true) (hnd : X.N.Nodup) (hB : ∀ a, ¬ C.B a) (h : LC2 X C Γ elt tg e ifs tg1 e1 ifs1 scope d r fun x Γ1 r1 => i < Γ1.length ∧ T.nx (Γ1.set i (.im (cLst d) x)) r1) (hy : X.N[i]? = some y := by rfl) (hyl : X.env.scope.names.lookup y = some .local := by rfl)
    (hsw : swapsWith (.ListComp elt [⟨tg, e, ifs, 0⟩, ⟨tg1, e1, ifs1, 0⟩] scope pos) (some (.Name y py)) spos.line X.env = pure true := by exact sw_true rfl rfl rfl (by decide +kernel)) : GK X C (wpS X (.Assign [.Name y py] (.ListComp elt [⟨tg, e, ifs, 0⟩, ⟨tg1, e1, ifs1, 0⟩] scope pos) spos)) Γ r T := by
  obtain ⟨own', vs1, wi, wi1, g, g1, tt, tt1, te, ok, hv, hi, hg, ht, hi1, hg1, ht1, he, hs, hs1, hq⟩ := h
  exact GK.mk fun z σ W H D s hr kn kb kc kr pins sh I => by
    have hl : i < σ.length := set_len (n := 0) I.len hy
    refine (ps_setLc2 hc hnd hy hyl hsw hi ok hv hg ht hi1 hg1 ht1 he hs hs1).run pins sh σ H D I (hq z σ W H _ s hr fun x Γ1 r1 W1 H1 p o j1 hr1 s1 w1 wp cp hp ct ap la => ?_)
    obtain ⟨hlen, j1⟩ := j1
    have t := s1.take hl wp (.inl cp) hp ct ap la
    obtain ⟨W2, w2, s2⟩ := t.freeze (i := i) (c := d) (xs := x) (by rw [List.getElem?_set_self hlen]) fun a z => absurd z (hB a)
    rw [List.set_set] at s2
    exact kn _ r1 _ W2 H1 j1 hr1 s2 (w1.trans w2)
/-- [f x y for x in xs if t x for y in g x if t1 x y] -/
theorem lc2_P {c : Cod X.K α} {c1 : Cod X.K β} {d : Cod X.K γ} {ws ws1 : List Nat} {up : En X.K → α → En X.K} {up1 : En X.K → β → En X.K} {J : List γ → En X.K → Option ρ → Prop} (vs1 : List Nat) (ok : BlkOk X.N X.env.scope scope own')
    (hg : ∀ (C' : Ct) sh H Cc cl fp, AG (bx X scope sh H Cc cl fp) C' tg c ws up) (hg1 : ∀ (C' : Ct) sh H Cc cl fp, AG (bx X scope sh H Cc cl fp) C' tg1 c1 ws1 up1)
    (h : EI X C Γ tg e c r fun xs Γ1 r1 => ∃ t g t1 f k, r1 = lc2R t g t1 f xs >>= k ∧ (∀ ys, J ys (drops (own'.map (·.2)) Γ1) (k ys)) ∧
      (∀ x, drops0 vs1 (up (drops (own'.map (·.2)) Γ1) x) = up (drops (own'.map (·.2)) Γ1) x) ∧
      (∀ (C' : Ct) sh H Cc cl fp x, EQ (bx X scope sh H Cc cl fp) C' (up (drops (own'.map (·.2)) Γ1) x) ifs (t x) fun y Γ2 r2 => r2 = some y ∧ Wk C' Γ2 (up (drops (own'.map (·.2)) Γ1) x)) ∧
      (∀ (C' : Ct) sh H Cc cl fp x, EI (bx X scope sh H Cc cl fp) C' (up (drops (own'.map (·.2)) Γ1) x) tg1 e1 c1 (g x) fun ys Γ2 r2 => r2 = some ys ∧ Wk C' Γ2 (up (drops (own'.map (·.2)) Γ1) x)) ∧
      (∀ (C' : Ct) sh H Cc cl fp x y, EQ (bx X scope sh H Cc cl fp) C' (up1 (up (drops (own'.map (·.2)) Γ1) x) y) ifs1 (t1 x y) fun b Γ2 r2 => r2 = some b ∧ Wk C' Γ2 (up1 (up (drops (own'.map (·.2)) Γ1) x) y)) ∧
      (∀ (C' : Ct) sh H Cc cl fp x y, EX (bx X scope sh H Cc cl fp) C' (up1 (up (drops (own'.map (·.2)) Γ1) x) y) elt d (f x y) fun w Γ2 r2 => r2 = some w ∧ Wk C' Γ2 (up1 (up (drops (own'.map (·.2)) Γ1) x) y)))
    (hws : ∀ i ∈ ws, i ∈ own'.map (·.2) := by decide) (hws1 : ∀ i ∈ ws1, i ∈ vs1 := by decide) (hv : ∀ i ∈ vs1, i ∈ own'.map (·.2) := by decide)
    (hs : ∀ x, foldedSetIterable e X.env x = pure x := by intro _; rfl) (hs1 : ∀ env x, foldedSetIterable e1 env x = pure x := by intro _ _; rfl) : LC2 X C Γ elt tg e ifs tg1 e1 ifs1 scope d r J := by
  refine ⟨own', vs1, wpi X tg e, fun σ1 H1 R1 => ∀ sh H0 Cc cl fp, wpi (bx X scope sh H0 Cc cl fp) tg1 e1 σ1 H1 R1, fun v σ1 H1 Q1 => ∀ sh H0 Cc cl fp, wpg (bx X scope sh H0 Cc cl fp) tg v σ1 H1 Q1, fun v σ1 H1 Q1 => ∀ sh H0 Cc cl fp, wpg (bx X scope sh H0 Cc cl fp) tg1 v σ1 H1 Q1,
    fun σ1 H1 Q1 => ∀ sh H0 Cc cl fp pins s', Inv (bx X scope sh H0 Cc cl fp) pins σ1 H1 s' → wpAny (model X.prog X.w) X.A (tsts ifs (bx X scope sh H0 Cc cl fp).env) (TP (bx X scope sh H0 Cc cl fp) pins σ1 Q1) (bx X scope sh H0 Cc cl fp).xe s',
    fun σ1 H1 Q1 => ∀ sh H0 Cc cl fp pins s', Inv (bx X scope sh H0 Cc cl fp) pins σ1 H1 s' → wpAny (model X.prog X.w) X.A (tsts ifs1 (bx X scope sh H0 Cc cl fp).env) (TP (bx X scope sh H0 Cc cl fp) pins σ1 Q1) (bx X scope sh H0 Cc cl fp).xe s',
    fun σ1 H1 Q1 => ∀ sh H0 Cc cl fp, wpe (bx X scope sh H0 Cc cl fp) elt σ1 H1 Q1,
    ok, hv, pi_w, fun sh H0 Cc cl fp => ⟨fun pins s σ H v u Q I r h => h sh H0 Cc cl fp pins s u I r⟩, fun sh H0 Cc cl fp => ⟨fun pins s σ H Q I h => h sh H0 Cc cl fp pins s I⟩,
    fun sh H0 Cc cl fp => ⟨fun pins s σ H R I h => h sh H0 Cc cl fp pins s I⟩, fun sh H0 Cc cl fp => ⟨fun pins s σ H v u Q I r h => h sh H0 Cc cl fp pins s u I r⟩, fun sh H0 Cc cl fp => ⟨fun pins s σ H Q I h => h sh H0 Cc cl fp pins s I⟩,
    fun sh H0 Cc cl fp => ⟨fun pins s σ H Q I h => h sh H0 Cc cl fp pins s I⟩, hs, hs1, fun z σ W H Q sat hr kk => ?_⟩
  refine h z σ W H _ sat hr fun xs Γ1 r1 W1 H1 It j1 hr1 s1 w1 wk => ?_
  obtain ⟨t, g, t1, f, k, e1', hk, hdr1, htest, hit, htest1, helt⟩ := j1
  intro D hD
  rw [e1'] at hr1
  obtain ⟨zz, f0, f2⟩ := bind_some hr1
  obtain ⟨zz', f1, fz⟩ := bind_some f0
  split at fz
  case isFalse => cases fz
  rename_i hzl
  have hzz : zz' = zz := Option.some.inj fz
  subst hzz
  have idm : drops0 (own'.map (·.2)) (drops (own'.map (·.2)) Γ1) = drops (own'.map (·.2)) Γ1 := drops_idem _ _ _ fun _ h => h
  generalize hΓb : drops (own'.map (·.2)) Γ1 = Γb at *
  obtain ⟨W2, w2, s2⟩ : ∃ W2, Same W1 W2 ∧ Sat C Γb σ W2 H1 := by
    obtain ⟨W2, w2, s2⟩ := wk_drops' (C := C) (own'.map (·.2)) (Γ := Γ1) σ W1 H1 s1
    exact ⟨W2, w2, by rw [← hΓb]; exact s2⟩
  obtain ⟨s3, wD, cD, apD, laD⟩ := s2.fresh (o := HO.lst []) hD
  have bD : ¬ C.B D := fun z => s2.lb D (.inl z) hD
  -- how long a part of the row may be
  have size : ∀ {acc : List V} {W' : Hp} {ys rest : List γ} {y : γ}, Row d W' acc ys → zz' = ys ++ (y :: rest) → acc.length < sizeLine := fun {acc W' ys rest y} row e => by
    rw [row.length]
    have : ys.length < zz'.length := by rw [e]; simp
    exact Nat.lt_of_lt_of_le this (Nat.le_trans hzl (by decide))
  refine ⟨fun i m H' => m = xs.length - i ∧ i ≤ xs.length ∧ ∃ acc ys rest W', lc2G t g t1 f (xs.drop i) = some rest ∧ zz' = ys ++ rest ∧ H' D = some (.lst acc) ∧ W' D = none ∧ Row d W' acc ys ∧ Same W2 W' ∧ Sat C Γb σ W' H', ⟨xs.length, ?_⟩, ?_⟩
  · exact ⟨by simp, Nat.zero_le _, [], [], zz', W2, by simpa using f1, by simp, upd_same, wD, .nil, Same.refl _, s3⟩
  rintro i m H' ⟨rfl, hi, acc, ys, rest, W', g1', g2', hD', wD', row, w', sat'⟩
  obtain ⟨stop, gg⟩ := wk.at_ i W' H' (w2.trans w') sat'.sub
  by_cases hl : i < xs.length
  · obtain ⟨go, yy⟩ := gg hl
    have ed : xs.drop i = xs[i] :: xs.drop (i + 1) := List.drop_eq_getElem_cons hl
    rw [ed] at g1'
    obtain ⟨b1, t1', t2'⟩ := bind_some (show t xs[i] >>= _ = some rest from g1')
    let Nx : Hp → Prop := fun H' => ∃ acc ys rest W', lc2G t g t1 f (xs.drop (i + 1)) = some rest ∧ zz' = ys ++ rest ∧ H' D = some (.lst acc) ∧ W' D = none ∧ Row d W' acc ys ∧ Same W2 W' ∧ Sat C Γb σ W' H'
    refine .inr ⟨go, Nx, fun H' q => ⟨xs.length - (i + 1), by omega, rfl, hl, q⟩, fun v H3 y => ?_⟩
    obtain ⟨W3, x, G, ex, rx⟩ := yy v H3 y
    have ex' : xs[i] = x := by rw [List.getElem?_eq_getElem hl] at ex; exact Option.some.inj ex
    rw [ex'] at t1' t2'
    have sat3 := sat'.grow G
    have hD3 := G.h _ _ hD'
    have wD3 := G.nw D (by rw [hD']; simp) wD'
    have wp0 : Sat (inner C Γb σ W3 H3) Γb (L2.wipe σ (own'.map (·.2))) W3 H3 := by
      have q := sat3.into.wipe (own'.map (·.2))
      rw [idm] at q
      exact q
    intro sh H0 Cc cl fp
    refine (hg (inner C Γb σ W3 H3) sh H0 Cc cl fp).run Γb (L2.wipe σ (own'.map (·.2))) W3 H3 v x _ wp0 rx fun σ4 s4 ag => ?_
    have hw : L2.wipe σ4 (own'.map (·.2)) = L2.wipe σ (own'.map (·.2)) := by
      rw [ag.wipe hws]; exact wipe_idem _ _ σ fun i h => h
    obtain ⟨sx, hDx, wDx, apx⟩ := sat3.guard hD3 wD3 cD bD apD laD s4
    have drx : drops0 (own'.map (·.2)) (up Γb x) = Γb := ((hg (inner C Γb σ W3 H3) sh H0 Cc cl fp).dr Γb x _ hws).trans idm
    -- back to the def's own names
    have home : ∀ {W7 H7 : Hp}, Sat C (up Γb x) σ4 W7 H7 → Sat C Γb σ W7 H7 := fun {W7 H7} q => by
      have q1 := q.wipe (own'.map (·.2))
      rw [hw] at q1
      have q2 := q1.unwipe
      rw [drx] at q2
      exact q2
    refine ⟨hw, fun sh H0 Cc cl fp pins s' I => ?_⟩
    refine htest (inner C (up Γb x) σ4 W3 H3) sh H0 Cc cl fp x b1 σ4 W3 H3 _ sx.into t1' (fun bb Γ5 r5 W5 H5 j5 hr5 s5 w5 => ?_) pins s' I
    obtain ⟨e6, wk6⟩ := j5
    rw [hr5] at e6; cases e6
    obtain ⟨W6, w6, sat6'⟩ := wk6 σ4 W5 H5 s5
    obtain ⟨sat6, hD6, wD6, _⟩ := sx.guard hDx wDx cD bD apx laD sat6'
    have ww6 : Same W' W6 := (G.w.trans w5).trans w6
    cases b1 with
    | false =>
      rw [if_neg Bool.false_ne_true]
      exact ⟨acc, ys, rest, W6, t2', g2', hD6, wD6, row.mono ww6, w'.trans ww6, home sat6⟩
    | true =>
      rw [if_pos rfl]
      obtain ⟨ys1, u1, u2⟩ := bind_some (show g x >>= _ = some rest from t2')
      obtain ⟨zs, u3, u4⟩ := bind_some u2
      obtain ⟨rest2, u5, u6⟩ := bind_some u4
      cases u6
      intro sh H0 Cc cl fp
      refine (hit (inner C (up Γb x) σ4 W6 H5) sh H0 Cc cl fp x).run ys1 σ4 W6 H5 _ sat6.into u1 fun xs1 Γ8 r8 W8' H8 It1 j8 hr8 s8 w8' wk1 => ?_
      obtain ⟨e8, wk8⟩ := j8
      rw [hr8] at e8; cases e8
      obtain ⟨W8, w8, sat8'⟩ := wk8 σ4 W8' H8 s8
      obtain ⟨sat8, hD8, wD8, _⟩ := sat6.guard hD6 wD6 cD bD apx laD sat8'
      have ww8 : Same W' W8 := (ww6.trans w8').trans w8
      refine ⟨fun j m H' => m = ys1.length - j ∧ j ≤ ys1.length ∧ ∃ acc2 ys2 rs W9, fltR (t1 x) (f x) (ys1.drop j) = some rs ∧ zz' = ys2 ++ (rs ++ rest2) ∧ H' D = some (.lst acc2) ∧ W9 D = none ∧ Row d W9 acc2 ys2 ∧ Same W8 W9 ∧ Sat C (up Γb x) σ4 W9 H', ⟨ys1.length, ?_⟩, ?_⟩
      · exact ⟨by simp, Nat.zero_le _, acc, ys, zs, W8, by simpa using u3, g2', hD8, wD8, row.mono ww8, Same.refl _, sat8⟩
      rintro j m H9 ⟨rfl, hj, acc2, ys2, rs, W9, q1, q2, hD9, wD9, row9, w9, sat9⟩
      obtain ⟨stop1, gg1⟩ := wk1.at_ j W9 H9 (w8.trans w9) sat9.sub
      by_cases hl1 : j < ys1.length
      · obtain ⟨go1, yy1⟩ := gg1 hl1
        have ed1 : ys1.drop j = ys1[j] :: ys1.drop (j + 1) := List.drop_eq_getElem_cons hl1
        rw [ed1] at q1
        obtain ⟨b2, q3, q4⟩ := bind_some (show t1 x ys1[j] >>= _ = some rs from q1)
        refine .inr ⟨go1, fun H' => ∃ acc2 ys2 rs W9, fltR (t1 x) (f x) (ys1.drop (j + 1)) = some rs ∧ zz' = ys2 ++ (rs ++ rest2) ∧ H' D = some (.lst acc2) ∧ W9 D = none ∧ Row d W9 acc2 ys2 ∧ Same W8 W9 ∧ Sat C (up Γb x) σ4 W9 H',
          fun H' q => ⟨ys1.length - (j + 1), by omega, rfl, hl1, q⟩, fun v1 H10 y1 => ?_⟩
        obtain ⟨W10, x1, G1, ex1, rx1⟩ := yy1 v1 H10 y1
        have ex1' : ys1[j] = x1 := by rw [List.getElem?_eq_getElem hl1] at ex1; exact Option.some.inj ex1
        rw [ex1'] at q3 q4
        have sat10 := sat9.grow G1
        have hD10 := G1.h _ _ hD9
        have wD10 := G1.nw D (by rw [hD9]; simp) wD9
        have wp1 : Sat (inner C (up Γb x) σ4 W10 H10) (up Γb x) (L2.wipe σ4 vs1) W10 H10 := by
          have q := sat10.into.wipe vs1
          rw [hdr1 x] at q
          exact q
        intro sh H0 Cc cl fp
        refine (hg1 (inner C (up Γb x) σ4 W10 H10) sh H0 Cc cl fp).run (up Γb x) (L2.wipe σ4 vs1) W10 H10 v1 x1 _ wp1 rx1 fun σ5 s11 ag1 => ?_
        have hw1 : L2.wipe σ5 vs1 = L2.wipe σ4 vs1 := by
          rw [ag1.wipe hws1]; exact wipe_idem _ _ σ4 fun i h => h
        have dr1 : drops0 vs1 (up1 (up Γb x) x1) = up Γb x := ((hg1 (inner C (up Γb x) σ4 W10 H10) sh H0 Cc cl fp).dr _ x1 _ hws1).trans (hdr1 x)
        have back : ∀ {W7 H7 : Hp}, Sat (inner C (up Γb x) σ4 W10 H10) (up1 (up Γb x) x1) σ5 W7 H7 → Sat C (up Γb x) σ4 W7 H7 ∧ H7 D = some (.lst acc2) ∧ W7 D = none := fun {W7 H7} q => by
          have q1 := q.wipe vs1
          rw [hw1] at q1
          have q2 := q1.unwipe
          rw [dr1] at q2
          obtain ⟨a1, a2, a3, _⟩ := sat10.guard hD10 wD10 cD bD apx laD q2
          exact ⟨a1, a2, a3⟩
        refine ⟨hw1, fun sh H0 Cc cl fp pins s' I => ?_⟩
        refine htest1 (inner C (up Γb x) σ4 W10 H10) sh H0 Cc cl fp x x1 b2 σ5 W10 H10 _ s11 q3 (fun bb2 Γ5 r5 W12' H12 j5 hr5 s12 w12' => ?_) pins s' I
        obtain ⟨e6, wk6⟩ := j5
        rw [hr5] at e6; cases e6
        obtain ⟨W12, w12, sat12⟩ := wk6 σ5 W12' H12 s12
        have ww12 : Same W9 W12 := (G1.w.trans w12').trans w12
        cases b2 with
        | false =>
          rw [if_neg Bool.false_ne_true]
          obtain ⟨a1, a2, a3⟩ := back sat12
          exact ⟨acc2, ys2, rs, W12, q4, q2, a2, a3, row9.mono ww12, w9.trans ww12, a1⟩
        | true =>
          rw [if_pos rfl]
          obtain ⟨yv, q5, q6⟩ := bind_some (show f x x1 >>= _ = some rs from q4)
          obtain ⟨rs', q7, q8⟩ := bind_some q6
          cases q8
          intro sh H0 Cc cl fp
          refine helt (inner C (up Γb x) σ4 W10 H10) sh H0 Cc cl fp x x1 yv σ5 W12 H12 _ sat12 q5 fun yv' Γ7 r7 W13' H13 v7 j7 hr7 s13 w13' rv7 => ?_
          obtain ⟨e7, wk7⟩ := j7
          rw [hr7] at e7; cases e7
          obtain ⟨W13, w13, sat13⟩ := wk7 σ5 W13' H13 s13
          obtain ⟨a1, a2, a3⟩ := back sat13
          have ww13 : Same W9 W13 := (ww12.trans w13').trans w13
          have row13 := (row9.mono ww13).append (Row.cons (d.mono w13 rv7) .nil)
          exact ⟨acc2, a2, size row9 (q2.trans (by rfl)), acc2 ++ [v7], ys2 ++ [yv], rs', W13, q7, by rw [q2]; simp, upd_same, a3, row13, w9.trans ww13, a1.side cD a3 apx laD⟩
      · have ej : j = ys1.length := by omega
        subst ej
        rw [List.drop_length] at q1
        have q1 : some ([] : List γ) = some rs := q1
        cases q1
        exact .inl ⟨stop1 (Nat.le_refl _), acc2, ys2, rest2, W9, u5, by simpa using q2, hD9, wD9, row9, (w'.trans ww8).trans w9, home sat9⟩
  · have ei : i = xs.length := by omega
    subst ei
    rw [List.drop_length] at g1'
    have g1' : some ([] : List γ) = some rest := g1'
    cases g1'
    have hz : zz' = ys := by rw [g2']; simp
    subst hz
    exact .inl ⟨stop (Nat.le_refl _), kk zz' _ _ W' H' D _ (hk zz') f2 sat' ((w1.trans w2).trans w') wD' cD hD' ⟨acc, rfl, row⟩ apD laD⟩
theorem ag_as {c : Cod X.K α} {ws ws' : List Nat} {up up' : En X.K → α → En X.K} (h : AG X C tg c ws' up') (hw : ws' = ws := by rfl) (hu : up' = up := by rfl) : AG X C tg c ws up := by subst hw hu; exact h
theorem et_cmpP {op : CmpOp} {a b : Expr} {c1 : Cod X.K α} {c2 : Cod X.K β} {g : α → β → Option Bool} {J : Bool → En X.K → Option ρ → Prop} (o : Op2 X (compareOp op) c1 c2 cBool g)
    (h : EX X C Γ a c1 r fun x Γ1 r1 => EX X C Γ1 b c2 r1 fun y Γ2 r2 => ∃ k, r2 = g x y >>= k ∧ ∀ z, J z Γ2 (k z)) (hm : behindInMarks op b = false := by first | exact nomark _ | rfl) : ET X C Γ (.Compare a [op] [b] pos) r J := .mk fun z σ W H Q s hr k => by
  obtain ⟨ro, ho, hf⟩ := o
  refine w_pt (pt_cmpR ho pe_w pe_w hm) (h z σ W H _ s hr fun x Γ1 r1 W1 H1 v j1 hr1 s1 w1 q1 => j1 z σ W1 H1 _ s1 hr1 fun y Γ2 r2 W2 H2 u j2 hr2 s2 w2 q2 => ?_)
  obtain ⟨k2, e2, j2⟩ := j2
  rw [e2] at hr2
  obtain ⟨t, et, ht⟩ := bind_some hr2
  exact hf W2 H2 x y v u t _ s2.sub (c1.mono w2 q1) q2 et fun w W3 H3 G q3 => ⟨_, q3, k t Γ2 _ W3 H3 (j2 t) ht (s2.grow G) ((w1.trans w2).trans G.w)⟩
theorem et_inO [DecidableEq α] {a : Expr} {n : Str} {c : Cod X.K α} (f : Flat c) {y : List α} {J : Bool → En X.K → Option ρ → Prop} (i : Nat) (h : EX X C Γ a c r fun x Γ1 r1 => Γ1[i]? = some (.ow (lstC c) y) ∧ J (decide (x ∈ y)) Γ1 r1) (hN : X.N[i]? = some n := by rfl)
    (hv : Vis X.env.scope n := by first | exact Or.inl rfl | exact Or.inr (Or.inl rfl) | exact Or.inr (Or.inr rfl)) (hm : behindInMarks .In (.Name n p) = false := by first | exact nomark _ | rfl) (hd : (n == ("__debug__" : Str)) = false := by decide) (hcd : (n == ("__classdict__" : Str)) = false := by decide) :
    ET X C Γ (.Compare a [.In] [.Name n p] pos) r J := .mk fun z σ W H Q s hr k =>
  w_pt (pt_cmpR op_in_seq pe_w (pe_var hN hv hd hcd) hm) (h z σ W H _ s hr fun x Γ1 r1 W1 H1 v j1 hr1 s1 w1 q1 => by
    obtain ⟨g1, j1⟩ := j1
    obtain ⟨ad, o, e1, e4, vs, rfl, rw1⟩ := s1.seen g1
    exact ⟨_, e1, ad, vs, rfl, .inl (SqL.of e4), f.fl q1, rw1.flat f, by rw [rw1.inV f q1]; exact ⟨_, rfl, k _ Γ1 r1 W1 H1 j1 hr1 s1 w1⟩⟩)
theorem et_niO [DecidableEq α] {a : Expr} {n : Str} {c : Cod X.K α} (f : Flat c) {y : List α} {J : Bool → En X.K → Option ρ → Prop} (i : Nat) (h : EX X C Γ a c r fun x Γ1 r1 => Γ1[i]? = some (.ow (lstC c) y) ∧ J (!decide (x ∈ y)) Γ1 r1) (hN : X.N[i]? = some n := by rfl)
    (hv : Vis X.env.scope n := by first | exact Or.inl rfl | exact Or.inr (Or.inl rfl) | exact Or.inr (Or.inr rfl)) (hm : behindInMarks .NotIn (.Name n p) = false := by first | exact nomark _ | rfl) (hd : (n == ("__debug__" : Str)) = false := by decide) (hcd : (n == ("__classdict__" : Str)) = false := by decide) :
    ET X C Γ (.Compare a [.NotIn] [.Name n p] pos) r J := .mk fun z σ W H Q s hr k =>
  w_pt (pt_cmpR op_notIn_seq pe_w (pe_var hN hv hd hcd) hm) (h z σ W H _ s hr fun x Γ1 r1 W1 H1 v j1 hr1 s1 w1 q1 => by
    obtain ⟨g1, j1⟩ := j1
    obtain ⟨ad, o, e1, e4, vs, rfl, rw1⟩ := s1.seen g1
    exact ⟨_, e1, ad, vs, rfl, .inl (SqL.of e4), f.fl q1, rw1.flat f, by rw [rw1.inV f q1]; exact ⟨_, rfl, k _ Γ1 r1 W1 H1 j1 hr1 s1 w1⟩⟩)
theorem ex_ixR {a b : Expr} {c : Cod X.K α} {J : α → En X.K → Option ρ → Prop} (h : EX X C Γ a (cRow c) r fun x Γ1 r1 => EX X C Γ1 b cInt r1 fun i Γ2 r2 => ∃ k, r2 = atI x i >>= k ∧ ∀ z, J z Γ2 (k z)) (hp : PlainIx b := by exact fun _ _ => rfl) :
    EX X C Γ (.Subscript a b pos) c r J := .mk fun z σ W H Q s hr k =>
  w_pe (pe_ix (IxR.or ix_list ix_tup) pe_w pe_w hp) (h z σ W H _ s hr fun x Γ1 r1 W1 H1 v j1 hr1 s1 w1 q1 => j1 z σ W1 H1 _ s1 hr1 fun i Γ2 r2 W2 H2 u j2 hr2 s2 w2 q2 => by
    obtain ⟨ad, vs, rfl, h2, h3⟩ := q1
    obtain ⟨k2, e2, j2⟩ := j2
    rw [e2] at hr2
    obtain ⟨t, et, ht⟩ := bind_some hr2
    obtain ⟨w, f1, f2⟩ := row_ixN (h3.mono w2) et
    have fin := k t Γ2 _ W2 H2 w (j2 t) ht s2 (w1.trans w2) f2
    rcases h2 with h2 | h2
    · exact .inl ⟨ad, vs, i, w, rfl, q2, SqL.of (s2.sub _ _ (w2 _ _ h2)), f1, fin⟩
    · exact .inr ⟨ad, vs, i, w, rfl, q2, Same.tup s2.sub (Same.tup w2 h2), f1, fin⟩)
end
end Ty

set_option maxHeartbeats 4000000
namespace Ty
open PySem PySem.Spec PyProof.Rows L2
/-! ### what gives out a token (U), what wants one (T) -/
section
variable (X : Cx)
def wpeU (e : Expr) : TE := fun σ H Q => ∀ pins s, Inv X pins σ H s → wpAny (model X.prog X.w) X.A (eval e X.env) (fun v s' => 1 ≤ s'.toks ∧ EP X pins σ Q v s') X.xe s
def wpSU (st : Stmt) : TS := fun D σ H => ∀ pins s, Inv X pins σ H s → wpAny (model X.prog X.w) X.A (exec st X.env) (fun f s' => 1 ≤ s'.toks ∧ SP X pins D f s') X.xe s
def wpBU (st : List Stmt) : TS := fun D σ H => ∀ pins s, Inv X pins σ H s → wpAny (model X.prog X.w) X.A (execs st X.env) (fun f s' => 1 ≤ s'.toks ∧ SP X pins D f s') X.xe s
def wpeT (e : Expr) : TE := fun σ H Q => ∀ pins s, 1 ≤ s.toks → Inv X pins σ H s → wpAny (model X.prog X.w) X.A (eval e X.env) (EP X pins σ Q) X.xe s
def wpaT (es : List Expr) : TA := fun σ H Q => ∀ pos pins s, 1 ≤ s.toks → Inv X pins σ H s → wpAny (model X.prog X.w) X.A (spliced (backTo pos (starEach es X.env))) (AP X pins σ Q) X.xe s
def wpST (st : Stmt) : TS := fun D σ H => ∀ pins s, 1 ≤ s.toks → Inv X pins σ H s → wpAny (model X.prog X.w) X.A (exec st X.env) (SP X pins D) X.xe s
def wpBT (st : List Stmt) : TS := fun D σ H => ∀ pins s, 1 ≤ s.toks → Inv X pins σ H s → wpAny (model X.prog X.w) X.A (execs st X.env) (SP X pins D) X.xe s
end
section
variable {X : Cx} {e : Expr} {es : List Expr} {st : Stmt} {rest : List Stmt} {σ : L2.St} {H : Hp} {D : Ends} {Q : VK}
theorem t_of (h : wpe X e σ H Q) : wpeT X e σ H Q := fun pins s _ I => h pins s I
theorem bt_of (h : wpB X rest D σ H) : wpBT X rest D σ H := fun pins s _ I => h pins s I
theorem st_of (h : wpS X st D σ H) : wpST X st D σ H := fun pins s _ I => h pins s I
theorem bt_cons (h : wpST X st { D with nx := wpBT X rest D } σ H) : wpBT X (st :: rest) D σ H := fun pins s h0 I => by
  refine wpAny_execs_cons (wpAny_mono (PySem.wpAny_toks (h pins s h0 I)) (fun f s1 q => ?_) fun _ _ x => x.2)
  obtain ⟨hk, q⟩ := q
  cases f with
  | next =>
    obtain ⟨σ', H', I', q⟩ := q
    exact q pins s1 (Nat.le_trans h0 hk) I'
  | ret v => exact q
  | brk => exact q
  | cont => exact q
theorem b_consU (h : wpSU X st { D with nx := wpBT X rest D } σ H) : wpB X (st :: rest) D σ H := fun pins s I => by
  refine wpAny_execs_cons (wpAny_mono (h pins s I) (fun f s1 q => ?_) fun _ _ x => x)
  obtain ⟨hk, q⟩ := q
  cases f with
  | next =>
    obtain ⟨σ', H', I', q⟩ := q
    exact q pins s1 hk I'
  | ret v => exact q
  | brk => exact q
  | cont => exact q
theorem at_nil {Q : List V → Hp → Prop} (h : Q [] H) : wpaT X [] σ H Q := fun _ _ _ _ I => Calls.spliced_nil ⟨[], H, I, .nil, h⟩
theorem at_cons {Q : List V → Hp → Prop} (h : wpeT X e σ H fun v H1 => wpaT X es σ H1 fun vs H2 => Q (v :: vs) H2) (hs : starEach (e :: es) X.env = (false, eval e X.env) :: starEach es X.env := by rfl) : wpaT X (e :: es) σ H Q := fun pos pins s h0 I => by
  rw [hs]
  show wpAny _ _ (spliced ((false, eval e X.env) :: backTo pos (starEach es X.env))) _ _ s
  refine Calls.spliced_cons (wpAny_mono (PySem.wpAny_toks (h pins s h0 I)) (fun v s1 q => ?_) fun _ _ z => z.2)
  obtain ⟨hk, x, H1, I1, r1, q1⟩ := q
  exact thn (q1 pos pins s1 (Nat.le_trans h0 hk) I1) fun us s2 ⟨xs, H2, I2, r2, q2⟩ => ⟨x :: xs, H2, I2, .cons r1 r2, q2⟩
theorem t_tup {x1 pos} (h : tTup (wpaT X es) σ H Q) : wpeT X (.Tuple es x1 pos) σ H Q := fun pins s h0 I => by
  refine wpAny_Tuple_spliced (thn (h pos pins s h0 I) fun us s1 ⟨xs, H1, I1, r, z, q⟩ => ⟨by rw [← r.length]; exact z, ?_⟩)
  have hf : H1 s1.heap.objs.size = none := I1.hok.fresh (Nat.le_refl _)
  refine ⟨.ref s1.heap.objs.size, upd H1 s1.heap.objs.size (.tup xs), I1.laid (t' := s1.toks) (fun b u e => Heap.get?_push_of_some _ e) (Nat.le_refl _) ?_, rfl, q _ hf⟩
  exact ⟨z, us, r, ⟨_, Heap.get?_push_size _ rfl, rfl, _, rfl⟩⟩
theorem t_bm {o : Expr} {name : Str} {T id : String} {r : V → List V → Hp → VK → Prop} {to : TE} {apos cpos : Pos} (pa : PlainAttrs T) (slot : Slot T name id) (hty : typeOf (.builtin id) = pure (.type "method_descriptor")) (hm : MtR X id r) (ho : PE X o to) 
    (h : tBM X.K T r to (wpaT X (e :: es)) σ H Q)
    (hbase : attributeBase o name X.env (eval o X.env) = eval o X.env := by rfl)
    (hfew : ((backTo cpos (starEach (e :: es) X.env)).all (fun x => !x.1) && (backToKw cpos (keywordEach [] X.env)).all (fun x => x.1.isSome)
      && decide ((e :: es).length + ([] : List Keyword).length + (if ([] : List Keyword).isEmpty then 0 else 1) < 30)) = true := by rfl)
    (hline : (apos.endLine == cpos.line) = true := by rfl) (hs : starEach (e :: es) X.env = (false, eval e X.env) :: starEach es X.env := by rfl) (hplain : (backTo cpos (starEach es X.env)).any (·.1) = false := by rfl) :
    wpeT X (.Call (.Attribute o name apos) (e :: es) [] cpos) σ H Q := fun pins s h0 I => by
  refine wpAny_Call_method_late hbase hfew hline rfl (wpAny_mono (PySem.wpAny_toks (ho.run pins s σ H _ I h)) (fun v s1 q => ?_) fun _ _ z => z.2)
  obtain ⟨hk, x, H1, I1, r1, ty, q1⟩ := q
  obtain ⟨h1, h2⟩ := tyV_is I1 r1 ty
  refine ⟨T, id, pa, slot, hty, h1, h2, ?_⟩
  have hA := q1 cpos pins s1 (Nat.le_trans h0 hk) I1
  rw [hs] at hA ⊢
  refine Calls.callWith_builtin (by show (false || (backTo cpos (starEach es X.env)).any (·.1)) = false; rw [hplain] <;> rfl) (Calls.evalArgs_plain ?_)
  exact thn hA fun us s2 ⟨vs, H2, I2, r2, q2⟩ => hm pins s2 σ H2 x vs v us Q I2 r1 r2 q2
theorem t_expr {pos} (h : wpeT X e σ H fun _ H1 => D.nx σ H1) (hs : swapsWith e none pos.line X.env = pure false := by rfl) : wpST X (.Expr e pos) D σ H := fun pins s h0 I =>
  wpAny_Expr_any (thn (h pins s h0 I) fun v s1 ⟨x, H1, I1, r1, q1⟩ => ⟨σ, H1, I1, q1⟩) I.quiet hs
end
/-- for, one token out; its body wants one -/
theorem t_for {X : Cx} {tg iter : Expr} {body : List Stmt} {wi : TI} {g : TG} {pos : Pos} {D : Ends} {σ : L2.St} {H : Hp} (hp : PassesOwn (model X.prog X.w) X.A X.env X.xe) (hc : X.calm = true) (hi : PI X tg iter wi) (hg : PG X tg g)
    (h : tFor wi g (wpBT X body) D σ H) (hs : ∀ x, foldedSetIterable iter X.env x = pure x := by intro _; rfl) : wpST X (.For tg iter body [] pos) D σ H := fun pins s h0 I => by
  refine wpAny_For (wpAny_mono (PySem.wpAny_toks (hi.run pins s σ H _ I h)) (fun v s1 h1 => ?_) fun _ _ z => z.2) hs
  obtain ⟨k1, h1⟩ := h1
  refine wpAny_mono (PySem.wpAny_toks h1) (fun itv s2 h2 => ?_) fun _ _ z => z.2
  obtain ⟨k2, h2⟩ := h2
  obtain ⟨it, fp, tn, J, H2, e, I2, T, st2, f2, W, ⟨m0, w0⟩, turn⟩ := h2
  subst e
  have stat : ∀ {H' : Hp}, (∀ b ∈ fp, H' b = none) → ∀ b ∈ fp, FpOk X pins H' b := fun hn b hb => ⟨hn b hb, (f2 b hb).2⟩
  refine codeAny_forLoop_any (fun n s' => ∃ i σ' H', 1 ≤ s'.toks ∧ Inv X pins σ' H' s' ∧ tn i s'.heap ∧ (∀ b ∈ fp, H' b = none) ∧ W i n σ' H') ?_ m0 ⟨0, σ, H2, Nat.le_trans h0 (Nat.le_trans k1 k2), I2, st2, fun b hb => (f2 b hb).1, w0⟩
  rintro n s3 ⟨i, σ3, H3, t3, I3, st3, fr3, w3⟩
  rcases turn i n σ3 H3 w3 with ⟨stop, qn⟩ | ⟨go, N, hN, step⟩
  · refine wpAny_passesOwn hp (thn (T.done X rfl rfl rfl hc i pins s3 σ3 H3 X.xe I3 (stat fr3) st3 stop) fun r s4 ⟨hr, I4⟩ => ?_)
    subst hr
    exact wpAny_execs_nil ⟨σ3, H3, I4, qn⟩
  · refine wpAny_passesOwn hp (wpAny_mono (PySem.wpAny_toks (T.item X rfl rfl rfl hc i pins s3 σ3 H3 X.xe I3 (stat fr3) st3 go)) (fun r s4 h4 => ?_) fun _ _ z => z.2)
    obtain ⟨k4, u, hr, h4⟩ := h4
    subst hr
    refine wpAny_passesOwn hp (wpAny_mono (PySem.wpAny_toks h4) (fun _ s5 h5 => ?_) fun _ _ z => z.2)
    obtain ⟨k5, x, H5, I5, r5, y5, st5, fr5⟩ := h5
    have I5' := I5.pinned (stat fr5) (T.obj _ _ st5)
    refine wpAny_passesOwn hp (wpAny_mono (PySem.wpAny_toks (hg.run _ s5 σ3 H5 x u _ I5' r5 (step x H5 y5))) (fun _ s6 h6 => ?_) fun _ _ z => z.2)
    obtain ⟨k6, σ6, H6, I6, q6⟩ := h6
    have t6 : 1 ≤ s6.toks := Nat.le_trans t3 (Nat.le_trans k4 (Nat.le_trans k5 k6))
    refine wpAny_passesOwn hp (wpAny_mono (PySem.wpAny_toks (q6 _ s6 t6 I6)) (fun f s7 q7 => ?_) fun _ _ z => z.2)
    obtain ⟨k7, q7⟩ := q7
    have again : ∀ {σ7 : L2.St} {H7 : Hp}, Inv X (pins ++ pinsAt fp s5.heap) σ7 H7 s7 → N σ7 H7 → ∃ m, m < n ∧ ∃ i σ' H', 1 ≤ s7.toks ∧ Inv X pins σ' H' s7 ∧ tn i s7.heap ∧ (∀ b ∈ fp, H' b = none) ∧ W i m σ' H' := fun {σ7 H7} I7 n7 => by
      obtain ⟨m', hm, w7⟩ := hN σ7 H7 n7
      refine ⟨m', hm, i + 1, σ7, H7, Nat.le_trans t6 k7, I7.unpinned, T.keep _ _ _ st5 fun b hb o e => (I7.pin (b, o) (List.mem_append_right _ (List.mem_append_right _ (mem_pinsAt hb e)))).1, fun b hb => ?_, w7⟩
      obtain ⟨o, e, d⟩ := T.obj _ _ st5 b hb
      exact (I7.pin (b, o) (List.mem_append_right _ (List.mem_append_right _ (mem_pinsAt hb e)))).2.1
    cases f with
    | next => obtain ⟨σ7, H7, I7, n7⟩ := q7; exact again I7 n7
    | cont => obtain ⟨σ7, H7, I7, n7⟩ := q7; exact again I7 n7
    | brk => obtain ⟨σ7, H7, I7, q7⟩ := q7; exact ⟨σ7, H7, I7.unpinned, q7⟩
    | ret v => obtain ⟨x7, σ7, H7, I7, r7, q7⟩ := q7; exact ⟨x7, σ7, H7, I7.unpinned, r7, q7⟩
/-! ### a def that gives out a token -/
structure FnU (P : Program) (w : World) (K : PySem.W.Frag) (mg : Str → Option Value) (base : Heap) (k : Nat) (f : Addr) (fd : FuncData) (ps : List Str) (sp : Sp) : Prop where
  len : ∀ vs H Q E, sp vs H Q E → vs.length = ps.length
  run : ∀ (A : Around) (outer : List Env) (s : Shared) (H : Hp) (args : Args) (us : List Value) (vs : List V) (Q : VK) (E : XK), Room k A → Env0 P w K mg base A outer s H → BindsTo s fd args (ps.zip us) → Vals vs us → sp vs H Q E →
    codeAny (model P w) A (.call (.ref f) args) (fun r s' => (∀ x, r = .ok x → 1 ≤ s'.toks) ∧ CR CX0 outer P w H s Q E r s') s
structure FnPU (P : Program) (w : World) (K : Frag) (mg : Str → Option Value) (base : Heap) (x : Str) (k : Nat) (ps : List Str) (sp : Sp) : Prop where
  ex : ∃ f fd, mg x = some (.ref f) ∧ PySem.W.keepIn K (.ref f) = true ∧ Binds K fd ps [] ∧ FnU P w K mg base k f fd ps sp
section
variable {P : Program} {w : World} {K : Frag} {mg : Str → Option Value} {base : Heap} {nm qual : Str} {params : Arguments} {body : List Stmt} {scope : Scope} {fa : Addr} {fd : FuncData} {N ps : List Str} {k : Nat} {sp : Sp}
theorem fnU_of (F : FunD K nm qual params body scope [] [] fa fd) (S : FnScope N ps scope) (len : ∀ vs H Q E, sp vs H Q E → vs.length = ps.length)
    (hbody : ∀ (cdv : Value) (A : Around) (outer : List Env) (s : Shared) (H : Hp) (vs : List V) (Q : VK) (E : XK), Room k (A.deeper (envOfC qual scope s.heap.objs.size fa cdv)) → sp vs H Q E →
      wpBU (bX P w K mg base N qual scope fa cdv A outer s H E) body { nx := fun _ H' => Q .non H', rt := Q } (start N vs) H) : FnU P w K mg base (k + 1) fa fd ps sp := by
  obtain ⟨oc, od, dV, kV, doc, pm, an, cdv, ct, osl, rfl, lk, hcd, _, _⟩ := F.ex
  refine ⟨len, fun A outer s H args us vs Q E hr e0 hb r hsp => ?_⟩
  have hl := len _ _ _ _ hsp
  have KX : K.In s.heap := e0.mod.kin.keeps fun b o e => (e0.bs b o e).1
  have lim : s.heap.NoLimit := e0.mod.nolimit.keeps fun b o e => (e0.bs b o e).1
  have hkind : ∀ y ∈ ps.zip us, scope.names.lookup y.1 = some .local ∨ (scope.names.lookup y.1 = some .cell ∧ ((cellsFrom (s.heap.objs.size + 1) scope.names []).lookup y.1).isSome = true) := fun ⟨n, v⟩ hy => by
    rcases S.par n (List.of_mem_zip hy).1 with q | q
    · exact .inl q
    · exact .inr ⟨q, PySem.W.cellsFrom_some _ _ _ (.inl q)⟩
  refine codeAny_call_function hr.depth (KX _ _ lk) rfl S.co S.gen rfl (PySem.W.codeRec_of KX hcd) (hb _ _ _ _ ?_)
  refine wpAny_newFunctionEnv_cells S.kind hkind fun env he s1 x => ?_
  subst he
  refine ⟨lim.keeps x.toInCall.keep, codeAny_func ?_⟩
  have ht := hbody cdv A outer s H vs Q E (hr.deeper _) hsp
  have I : Inv (cxOf CX0 P w K mg base N qual scope fa cdv A outer s H E) [] (start N vs) H s1 := inv_start S hr.hd e0 hl r x
  have fin : ∀ {σ' : L2.St} {H' : Hp} {v : V} {u : Value} {s' : Shared}, Inv (cxOf CX0 P w K mg base N qual scope fa cdv A outer s H E) [] σ' H' s' → RelV v u → Q v H' → CE outer P w H s Q u s' :=
    fun {σ' H' v u s'} J rv q => ⟨v, H', J.os, J.bare, J.base, J.hok, rv, q⟩
  have hx := ht [] s1 (I.wish _)
  refine wpAny_mono hx (fun fl s' hs => ?_) fun e s' hs => False.elim hs
  obtain ⟨hk, hs⟩ := hs
  cases fl with
  | ret u =>
    obtain ⟨v, σ', H', J, rv, q⟩ := hs
    exact ⟨fun _ _ => hk, fin J.unwish rv q⟩
  | next =>
    obtain ⟨σ', H', J, q⟩ := hs
    exact ⟨fun _ _ => hk, fin (v := V.non) (u := Value.none) J.unwish rfl q⟩
  | brk =>
    obtain ⟨_, _, _, q⟩ := hs
    exact False.elim q
  | cont =>
    obtain ⟨_, _, _, q⟩ := hs
    exact False.elim q
end
end Ty

set_option maxHeartbeats 4000000
namespace Ty
open PySem PySem.Spec PyProof.Rows L2
section
variable {X : Cx} {C : Ct} {ρ α β γ τ : Type} {Γ : En X.K} {e a b : Expr} {es : List Expr} {st : Stmt} {sts rest : List Stmt} {r : Option β} {T : Go X.K ρ β} {pos p p2 p3 : Pos}
theorem gk_consU (h : GK X C (wpSU X st) Γ r { T with nx := fun Γ1 r1 => GK X C (wpBT X rest) Γ1 r1 T }) : GK X C (wpB X (st :: rest)) Γ r T := GK.mk fun z σ W H D s hr kn kb kc kr =>
  b_consU (h z σ W H { D with nx := wpBT X rest D } s hr (fun Γ1 r1 σ1 W1 H1 g hr1 s1 w1 => g z σ1 W1 H1 D s1 hr1
    (fun Γ' r' σ' W' H' a b c d => kn Γ' r' σ' W' H' a b c (w1.trans d)) (fun Γ' r' σ' W' H' a b c d => kb Γ' r' σ' W' H' a b c (w1.trans d)) (fun Γ' r' σ' W' H' a b c d => kc Γ' r' σ' W' H' a b c (w1.trans d))
    (fun x v Γ' σ' W' H' a b c d => kr x v Γ' σ' W' H' a b (w1.trans c) d)) kb kc kr)
theorem gkT_cons (h : GK X C (wpST X st) Γ r { T with nx := fun Γ1 r1 => GK X C (wpBT X rest) Γ1 r1 T }) : GK X C (wpBT X (st :: rest)) Γ r T := GK.mk fun z σ W H D s hr kn kb kc kr =>
  bt_cons (h z σ W H { D with nx := wpBT X rest D } s hr (fun Γ1 r1 σ1 W1 H1 g hr1 s1 w1 => g z σ1 W1 H1 D s1 hr1
    (fun Γ' r' σ' W' H' a b c d => kn Γ' r' σ' W' H' a b c (w1.trans d)) (fun Γ' r' σ' W' H' a b c d => kb Γ' r' σ' W' H' a b c (w1.trans d)) (fun Γ' r' σ' W' H' a b c d => kc Γ' r' σ' W' H' a b c (w1.trans d))
    (fun x v Γ' σ' W' H' a b c d => kr x v Γ' σ' W' H' a b (w1.trans c) d)) kb kc kr)
theorem gkT_one (h : GK X C (wpST X st) Γ r T) : GK X C (wpBT X [st]) Γ r T := GK.mk fun z σ W H D s hr kn kb kc kr =>
  bt_cons (h z σ W H { D with nx := wpBT X [] D } s hr (fun Γ' r' σ' W' H' a b c d => bt_of (w_pss pss_nil (kn Γ' r' σ' W' H' a b c d))) kb kc kr)
theorem gkT_of (h : GK X C (wpB X rest) Γ r T) : GK X C (wpBT X rest) Γ r T := GK.mk fun z σ W H D s hr kn kb kc kr => bt_of (h z σ W H D s hr kn kb kc kr)
theorem gsT_of (h : GK X C (wpS X st) Γ r T) : GK X C (wpST X st) Γ r T := GK.mk fun z σ W H D s hr kn kb kc kr => st_of (h z σ W H D s hr kn kb kc kr)
end
section
variable (X : Cx) (C : Ct) {ρ α : Type}
structure EXT (Γ : En X.K) (e : Expr) (c : Cod X.K α) (r : Option ρ) (J : α → En X.K → Option ρ → Prop) : Prop where
  run : ∀ (z : ρ) σ W H (Q : VK), Sat C Γ σ W H → r = some z →
    (∀ x Γ' r' W' H' v, J x Γ' r' → r' = some z → Sat C Γ' σ W' H' → Same W W' → c.rp W' v x → Q v H') → wpeT X e σ H Q
structure EAT (Γ : En X.K) (es : List Expr) (t : TC X.K α) (r : Option ρ) (J : α → En X.K → Option ρ → Prop) : Prop where
  run : ∀ (z : ρ) σ W H (Q : List V → Hp → Prop), Sat C Γ σ W H → r = some z →
    (∀ x Γ' r' W' H' vs, J x Γ' r' → r' = some z → Sat C Γ' σ W' H' → Same W W' → t.rp W' vs x → Q vs H') → wpaT X es σ H Q
structure EXU (Γ : En X.K) (e : Expr) (c : Cod X.K α) (r : Option ρ) (J : α → En X.K → Option ρ → Prop) : Prop where
  run : ∀ (z : ρ) σ W H (Q : VK), Sat C Γ σ W H → r = some z →
    (∀ x Γ' r' W' H' v, J x Γ' r' → r' = some z → Sat C Γ' σ W' H' → Same W W' → c.rp W' v x → Q v H') → wpeU X e σ H Q
structure EFU (Γ : En X.K) (e : Expr) (c : Cel X.K α) (r : Option ρ) (J : α → En X.K → Option ρ → Prop) : Prop where
  run : ∀ (z : ρ) σ W H (Q : VK), Sat C Γ σ W H → r = some z →
    (∀ x Γ' r' W' H' p o, J x Γ' r' → r' = some z → Sat C Γ' σ W' H' → Same W W' → W' p = none → C.H p = none → H' p = some o → c.ct W' o x → Apart Γ' σ p → C.a ≠ some p → Q (.ref p) H') → wpeU X e σ H Q
end
section
variable {X : Cx} {C : Ct} {ρ α β γ τ : Type} {Γ : En X.K} {e a b : Expr} {es : List Expr} {r : Option ρ} {x n : Str} {pos p p2 p3 : Pos}
theorem exT_of {c : Cod X.K α} {J : α → En X.K → Option ρ → Prop} (h : EX X C Γ e c r J) : EXT X C Γ e c r J := .mk fun z σ W H Q s hr k => t_of (h z σ W H Q s hr k)
theorem eaT_one {c : Cod X.K α} {J : α → En X.K → Option ρ → Prop} (h : EXT X C Γ e c r J) (hs : starEach [e] X.env = (false, eval e X.env) :: starEach [] X.env := by rfl) : EAT X C Γ [e] (tc1 c) r J := .mk fun z σ W H Q s hr k =>
  at_cons (h.run z σ W H _ s hr fun x Γ1 r1 W1 H1 v j1 hr1 s1 w1 q1 => at_nil (k x Γ1 r1 W1 H1 [v] j1 hr1 s1 w1 ⟨v, rfl, q1⟩)) hs
theorem eaT_cons {c : Cod X.K α} {t : TC X.K β} {J : α × β → En X.K → Option ρ → Prop} (h : EXT X C Γ e c r fun x Γ1 r1 => EAT X C Γ1 es t r1 fun y Γ2 r2 => J (x, y) Γ2 r2)
    (hs : starEach (e :: es) X.env = (false, eval e X.env) :: starEach es X.env := by rfl) : EAT X C Γ (e :: es) (tcC c t) r J := .mk fun z σ W H Q s hr k =>
  at_cons (h.run z σ W H _ s hr fun x Γ1 r1 W1 H1 v j1 hr1 s1 w1 q1 => j1.run z σ W1 H1 _ s1 hr1 fun y Γ2 r2 W2 H2 vs j2 hr2 s2 w2 q2 =>
    k (x, y) Γ2 r2 W2 H2 (v :: vs) j2 hr2 s2 (w1.trans w2) ⟨v, vs, rfl, c.mono w2 q1, q2⟩) hs
theorem exT_tup {t : TC X.K α} {J : α → En X.K → Option ρ → Prop} {x1} (h : EAT X C Γ es t r J) (hn : t.n ≤ 1000 := by exact Nat.le_of_ble_eq_true rfl) : EXT X C Γ (.Tuple es x1 pos) (cTup t) r J := .mk fun z σ W H Q s hr k =>
  t_tup (h.run z σ W H _ s hr fun x Γ1 r1 W1 H1 vs j1 hr1 s1 w1 q1 => ⟨by rw [t.len q1]; exact Nat.le_trans hn (by decide), fun p hp => by
    have G := Grow.new (o := .tup vs) s1.sub hp
    exact k x Γ1 r1 _ _ _ j1 hr1 (s1.grow G) (w1.trans G.w) ⟨p, vs, rfl, SqT.of upd_same, t.mono G.w q1⟩⟩)
def replT (x y z : Str) : Option Str := if x.length + (x.length + 1) * z.length ≤ 16777216 then some (PySem.Txt.replace x y z) else none
/-- o.replace of written texts -/
theorem exT_repl {J : Str → En X.K → Option ρ → Prop} {y z : Str} {j k : Nat} {c0 c1 apos : Pos} (h : EX X C Γ e cStr r fun x Γ1 r1 => ∃ k, r1 = replT x y z >>= k ∧ ∀ w, J w Γ1 (k w)) (hyz : (y == z) = false := by decide)
    (hst : starEach [.Constant (.str y) j c0, .Constant (.str z) k c1] X.env = [(false, eval (.Constant (.str y) j c0) X.env), (false, eval (.Constant (.str z) k c1) X.env)] := by rfl)
    (hbase : attributeBase e "replace" X.env (eval e X.env) = eval e X.env := by rfl) (hline : (apos.endLine == pos.line) = true := by rfl) :
    EXT X C Γ (.Call (.Attribute e "replace" apos) [.Constant (.str y) j c0, .Constant (.str z) k c1] [] pos) cStr r J := .mk fun w σ W H Q s hr kk => fun pins sh h0 I =>
  CwR.pet_replC pe_w hyz hst hbase hline pins sh σ H Q h0 I (h w σ W H _ s hr fun x Γ1 r1 W1 H1 v j1 hr1 s1 w1 q1 => by
    have q1 : v = .str x := q1
    subst q1
    obtain ⟨k2, e2, j2⟩ := j1
    rw [e2] at hr1
    obtain ⟨t2, et, ht⟩ := bind_some hr1
    unfold replT at et
    split at et
    · rename_i hb
      cases et
      exact ⟨x, rfl, hb, kk _ Γ1 _ W1 H1 _ (j2 _) ht s1 w1 rfl⟩
    · cases et)
theorem exT_own {δ : Type} {t : TC X.K α} {c : Cod X.K β} {d : Cod X.K δ} {g : List β → α → Option (δ × List β)} {J : δ → En X.K → Option ρ → Prop} {n m : Str} {id : String} {ys : List β} {apos cpos : Pos} (i : Nat) (o : MtO X id t c d g)
    (slot : Slot "list" m id) (hty : typeOf (.builtin id) = pure (.type "method_descriptor"))
    (h : EAT X C Γ (e :: es) t r fun x Γ1 r1 => Γ1[i]? = some (.ow (lstC c) ys) ∧ ∃ k, r1 = g ys x >>= k ∧ ∀ z, J z.1 (Γ1.set i (.ow (lstC c) z.2)) (k z))
    (hN : X.N[i]? = some n := by rfl) (hΓ : Γ[i]? = some (.ow (lstC c) ys) := by rfl) (hv : Vis X.env.scope n := by first | exact Or.inl rfl | exact Or.inr (Or.inl rfl) | exact Or.inr (Or.inr rfl)) (hd : (n == ("__debug__" : Str)) = false := by decide) (hcd : (n == ("__classdict__" : Str)) = false := by decide)
    (hbase : attributeBase (.Name n p) m X.env (eval (.Name n p) X.env) = eval (.Name n p) X.env := by rfl)
    (hfew : ((backTo cpos (starEach (e :: es) X.env)).all (fun x => !x.1) && (backToKw cpos (keywordEach [] X.env)).all (fun x => x.1.isSome)
      && decide ((e :: es).length + ([] : List Keyword).length + (if ([] : List Keyword).isEmpty then 0 else 1) < 30)) = true := by rfl)
    (hline : (apos.endLine == cpos.line) = true := by rfl) (hs : starEach (e :: es) X.env = (false, eval e X.env) :: starEach es X.env := by rfl) (hplain : (backTo cpos (starEach es X.env)).any (·.1) = false := by rfl) :
    EXT X C Γ (.Call (.Attribute (.Name n p) m apos) (e :: es) [] cpos) d r J := .mk fun z σ W H Q s hr kk => by
  obtain ⟨rr, hm, hf⟩ := o
  refine t_bm PySem.F.plainAttrs_list slot hty hm (pe_var hN hv hd hcd) ?_ hbase hfew hline hs hplain
  obtain ⟨ad, o, e1, e4, vs, rfl, row⟩ := s.seen hΓ
  refine ⟨_, e1, .inl ⟨rfl, vs, SqL.of e4⟩, h.run z σ W H _ s hr fun x Γ1 r1 W1 H1 ws j1 hr1 s1 w1 q1 => ?_⟩
  obtain ⟨g1, k2, e2, j2⟩ := j1
  rw [e2] at hr1
  obtain ⟨t2, et, ht⟩ := bind_some hr1
  obtain ⟨ad', o', f1, f4, vs', rfl, row'⟩ := s1.seen g1
  rw [e1] at f1; cases f1
  refine hf W1 H1 ad vs' ws ys x t2 _ s1.sub f4 row' q1 et fun w vs2 q2 row2 => ?_
  exact kk t2.1 _ _ W1 _ w (j2 t2) ht (s1.changed g1 e1 row2) w1 q2
/-- x.endswith(y) -/
theorem ex_ends {J : Bool → En X.K → Option ρ → Prop} {apos cpos : Pos} (h : EX X C Γ a cStr r fun x Γ1 r1 => EX X C Γ1 e cStr r1 fun y Γ2 r2 => J (PySem.Txt.endswith x y) Γ2 r2)
    (hbase : attributeBase a "endswith" X.env (eval a X.env) = eval a X.env := by rfl)
    (hfew : ((backTo cpos (starEach [e] X.env)).all (fun x => !x.1) && (backToKw cpos (keywordEach [] X.env)).all (fun x => x.1.isSome)
      && decide (([e] : List Expr).length + ([] : List Keyword).length + (if ([] : List Keyword).isEmpty then 0 else 1) < 30)) = true := by rfl)
    (hline : (apos.endLine == cpos.line) = true := by rfl) (hs : starEach [e] X.env = (false, eval e X.env) :: starEach [] X.env := by rfl) (hplain : (backTo cpos (starEach [] X.env)).any (·.1) = false := by rfl) :
    EX X C Γ (.Call (.Attribute a "endswith" apos) [e] [] cpos) cBool r J := .mk fun z σ W H Q s hr kk =>
  w_pe (pe_bm PySem.F.plainAttrs_str PySem.F.slot_str_endswith PySem.F.type_str_endswith mt_endswith pe_w (pa_cons pe_w pa_nil hs) hbase hfew hline hs hplain) (h z σ W H _ s hr fun x Γ1 r1 W1 H1 v j1 hr1 s1 w1 q1 => by
    have q1 : v = .str x := q1
    subst q1
    refine ⟨rfl, j1 z σ W1 H1 _ s1 hr1 fun y Γ2 r2 W2 H2 u j2 hr2 s2 w2 q2 => ?_⟩
    have q2 : u = .str y := q2
    subst q2
    exact ⟨x, y, rfl, rfl, kk _ Γ2 _ W2 H2 _ j2 hr2 s2 (w1.trans w2) rfl⟩)
end
section
variable {X : Cx} {C : Ct} {ρ α β γ τ : Type} {Γ : En X.K} {e a b tg : Expr} {es : List Expr} {st : Stmt} {sts rest : List Stmt} {r : Option β} {T : Go X.K ρ β} {x n : Str} {pos p p2 p3 : Pos}
theorem gsT_expr {c : Cod X.K α} (h : EXT X C Γ e c r fun _ Γ1 r1 => T.nx Γ1 r1) (hs : swapsWith e none pos.line X.env = pure false := by rfl) : GK X C (wpST X (.Expr e pos)) Γ r T := GK.mk fun z σ W H D s hr kn kb kc kr =>
  t_expr (h.run z σ W H _ s hr fun x Γ1 r1 W1 H1 v j1 hr1 s1 w1 q1 => kn Γ1 r1 σ W1 H1 j1 hr1 s1 w1) hs
theorem gsT_forS {S : Type} {c : Cod X.K α} {ws : List Nat} {up : En X.K → α → En X.K} (Γs : S → En X.K) (hc : X.calm = true) (hg : AG X C tg c ws up)
    (h : EI X C Γ tg e c r fun xs Γ1 r1 => ∃ s0 f k, r1 = forS xs s0 f >>= k ∧ Wk C Γ1 (Γs s0) ∧ (∀ x s, GK X C (wpBT X sts) (up (Γs s) x) (f x s) { goS C Γs with ct := (goS C Γs).nx }) ∧ ∀ s, T.nx (Γs s) (k s))
    (hp : PassesOwn (model X.prog X.w) X.A X.env X.xe) (hs : ∀ x, foldedSetIterable e X.env x = pure x := by intro _; rfl) : GK X C (wpST X (.For tg e sts [] pos)) Γ r T := GK.mk fun z σ W H D s hr kn kb kc kr =>
  t_for hp hc pi_w pg_w (h z σ W H _ s hr fun xs Γ1 r1 W1 H1 It j1 hr1 s1 w1 wk => by
    obtain ⟨s0, f, k, e1, g0, body, hk⟩ := j1
    rw [e1] at hr1
    obtain ⟨t, f1, f2⟩ := bind_some hr1
    refine ⟨fun i m σ H => m = xs.length - i ∧ i ≤ xs.length ∧ ∃ s W', forS (xs.drop i) s f = some t ∧ Sat C (Γs s) σ W' H ∧ Same W1 W', ⟨xs.length, ?_⟩, ?_⟩
    · obtain ⟨W2, w2, s2⟩ := g0 σ W1 H1 s1
      exact ⟨by simp, Nat.zero_le _, s0, W2, by simpa using f1, s2, w2⟩
    · rintro i m σ2 H2 ⟨rfl, hi, s2, W2, f3, sat2, w2⟩
      obtain ⟨st, gg⟩ := wk.at_ i W2 H2 w2 sat2.sub
      by_cases hl : i < xs.length
      · obtain ⟨go, yy⟩ := gg hl
        have ed : xs.drop i = xs[i] :: xs.drop (i + 1) := List.drop_eq_getElem_cons hl
        rw [ed] at f3
        obtain ⟨s3, f4, f5⟩ := bind_some (show f xs[i] s2 >>= _ = some t from f3)
        refine .inr ⟨go, fun σ' H' => ∃ s W', forS (xs.drop (i + 1)) s f = some t ∧ Sat C (Γs s) σ' W' H' ∧ Same W1 W', fun σ' H' q => ⟨xs.length - (i + 1), by omega, rfl, hl, q⟩, fun v H3 y => ?_⟩
        obtain ⟨W3, x, G, ex, rx⟩ := yy v H3 y
        have ex' : xs[i] = x := by rw [List.getElem?_eq_getElem hl] at ex; exact Option.some.inj ex
        subst ex'
        refine hg.run (Γs s2) σ2 W3 H3 v xs[i] _ (sat2.grow G) rx fun σ4 s4 _ => ?_
        have fin : ∀ (Γ' : En X.K) (r' : Option S) (σ' : L2.St) (W' H' : Hp), (goS C Γs).nx Γ' r' → r' = some s3 → Sat C Γ' σ' W' H' → Same W3 W' → ∃ s W', forS (xs.drop (i + 1)) s f = some t ∧ Sat C (Γs s) σ' W' H' ∧ Same W1 W' := fun Γ' r' σ' W' H' j hr' s' w' => by
          obtain ⟨s5, e5, g5⟩ := j
          rw [hr'] at e5; cases e5
          obtain ⟨W6, w6, s6⟩ := g5 σ' W' H' s'
          exact ⟨s3, W6, f5, s6, ((w2.trans G.w).trans w').trans w6⟩
        exact body xs[i] s2 s3 σ4 W3 H3 _ s4 f4 (fun Γ' r' σ' W' H' j hr' s' w' => fin Γ' r' σ' W' H' j hr' s' w') (fun _ _ _ _ _ f => f.elim) (fun Γ' r' σ' W' H' j hr' s' w' => fin Γ' r' σ' W' H' j hr' s' w') fun x => x.elim
      · have ei : i = xs.length := by omega
        subst ei
        rw [List.drop_length] at f3
        have f3 : some s2 = some t := f3
        cases f3
        exact .inl ⟨st (Nat.le_refl _), kn _ _ σ2 W2 H2 (hk _) f2 sat2 (w1.trans w2)⟩) hs
theorem gsU_set {c : Cod X.K α} {n : Str} (i : Nat) (h : EXU X C Γ e c r fun x Γ1 r1 => T.nx (Γ1.set i (.im c x)) r1) (hnd : X.N.Nodup) (hN : X.N[i]? = some n := by rfl)
    (hx : Loc X.env.scope n := by first | exact Or.inl rfl | exact Or.inr rfl) (hs : swapsWith e (some (.Name n p)) pos.line X.env = pure false := by rfl) (hf : X.fn n = true ∨ X.env.scope.names.lookup n = some .local := by first | exact .inl rfl | exact .inr rfl) :
    GK X C (wpSU X (.Assign [.Name n p] e pos)) Γ r T := GK.mk fun z σ W H D s hr kn kb kc kr => fun pins sh I => by
  have hl : i < σ.length := set_len (n := 0) I.len hN
  have hu : wpeU X e σ H fun v H1 => D.nx (σ.set i (some v)) H1 := h.run z σ W H _ s hr fun x Γ1 r1 W1 H1 v j1 hr1 s1 w1 q1 => kn _ r1 _ W1 H1 j1 hr1 (s1.put hl q1) w1
  refine wpAny_Assign_Name (thn (hu pins sh I) fun v s1 q => ?_) hs
  obtain ⟨hk, y, H1, I1, r1, q1⟩ := q
  exact wpAny_mono (PySem.wpAny_toks (store_ok I1 hnd hN hx r1 (fun s2 I2 => (⟨_, H1, I2, q1⟩ : ∃ σ' H', Inv X pins σ' H' s2 ∧ D.nx σ' H')) hf)) (fun _ s2 q => ⟨Nat.le_trans hk q.1, q.2⟩) fun _ _ z => z.2
/-- a written text is stored under a name: behind it a token is out -/
theorem gkU_str {x c : Str} {j : Nat} {cpos pos' : Pos} (i : Nat) (h : ∃ k, r = lt c k ∧ ∀ y, GK X C (wpB X rest) (Γ.set i (.im cStr y)) (k y) T) (hnd : X.N.Nodup) (hN : X.N[i]? = some x := by rfl)
    (hx : Loc X.env.scope x := by first | exact Or.inl rfl | exact Or.inr rfl) (hs : swapsWith (.Constant (.str c) j cpos) (some (.Name x pos')) pos.line X.env = pure false := by rfl) (hf : X.fn x = true ∨ X.env.scope.names.lookup x = some .local := by first | exact .inl rfl | exact .inr rfl) :
    GK X C (wpBU X (.Assign [.Name x pos'] (.Constant (.str c) j cpos) pos :: rest)) Γ r T := GK.mk fun z σ W H D s hr kn kb kc kr => fun pins sh I => by
  obtain ⟨k, e1, g⟩ := h
  have hl : i < σ.length := set_len (n := 0) I.len hN
  have hr' : k c = some z := by rw [e1] at hr; exact hr
  have hw : wpB X rest D (σ.set i (some (V.str c))) H := g c z _ W H D (s.put hl (c := cStr) (x := c) (v := .str c) rfl) hr' kn kb kc kr
  refine wpAny_execs_cons (wpAny_Assign_Name (Calls.Constant_str ?_) hs)
  refine wpAny_mono (PySem.wpAny_toks (store_ok (v := V.str c) (u := Value.str c sh.toks) (Q := fun _ s2 => Inv X pins (σ.set i (some (V.str c))) H s2) (I.tok (sh.toks + 1)) hnd hN hx ⟨sh.toks, rfl⟩ (fun _ I2 => I2) hf)) (fun _ s2 q => ?_) fun _ _ z => z.2
  have hk : sh.toks + 1 ≤ s2.toks := q.1
  exact wpAny_mono (PySem.wpAny_toks (hw pins s2 q.2)) (fun f s3 q3 => ⟨by have := q3.1; omega, q3.2⟩) fun _ _ z => z.2
end
section
variable {X : Cx} {C : Ct} {ρ α β γ τ : Type} {Γ : En X.K} {e a b : Expr} {es : List Expr} {r : Option ρ} {x n : Str} {pos p p2 p3 : Pos}
theorem exU_froz {c : Cod X.K α} {J : List α → En X.K → Option ρ → Prop} (h : EFU X C Γ e (lstC c) r J) : EXU X C Γ e (cLst c) r J := .mk fun z σ W H Q s hr k =>
  h.run z σ W H _ s hr fun x Γ1 r1 W1 H1 p o j1 hr1 s1 w1 wp cp hp ct ap lap => by
    obtain ⟨vs, rfl, q⟩ := ct
    have w : Same W1 (upd W1 p (.lst vs)) := fun b u e => by rw [upd_ne (ne_of_none e wp)]; exact e
    refine k x Γ1 r1 _ H1 _ j1 hr1 ⟨fun i e he => ?_, s1.ap, fun b u e => ?_, s1.old.trans w, s1.la, s1.fr, s1.li, fun b h1 h2 => ?_, s1.lb⟩ (w1.trans w) ⟨p, vs, rfl, upd_same, q.mono w⟩
    · have t := s1.sl i e he
      cases e with
      | no => trivial
      | im d x => obtain ⟨v, h1, h2⟩ := t; exact ⟨v, h1, d.mono w h2⟩
      | ow d x =>
        obtain ⟨a, ob, f1, f2, f3, f4, f5⟩ := t
        have na : a ≠ p := fun z => by
          subst z
          exact ap i ⟨_, he, rfl⟩ (getD_some f1)
        exact ⟨a, ob, f1, by rw [upd_ne na]; exact f2, f3, f4, d.mono w f5⟩
      | lp => exact t
      | ln d x =>
        obtain ⟨a, ob, f1, f2, f4, f5⟩ := t
        have na : a ≠ p := fun z => by subst z; exact lap f1
        exact ⟨a, ob, f1, by rw [upd_ne na]; exact f2, f4, d.mono w f5⟩
    · by_cases hb : b = p
      · subst hb; rw [upd_same] at e; cases e; exact hp
      · rw [upd_ne hb] at e; exact s1.sub b u e
    · have hb : b ≠ p := fun z => by subst z; exact h1 cp
      rw [upd_ne hb]; exact s1.nw b h1 h2
/-- a call that gives out a token -/
theorem u_call {k : Nat} {f : Addr} {fd : FuncData} {ps : List Str} {sp : Sp} {t : TA} {σ : L2.St} {H : Hp} {Q : VK} (F : FnU X.prog X.w X.K X.mg X.base k f fd ps sp) (hr : Room k X.A) (hg : Gl X x) (hm : X.mg x = some (.ref f)) (hk : PySem.W.keepIn X.K (.ref f) = true) (hb : Binds X.K fd ps [])
    (ha : PA X (e :: es) t) (h : t σ H fun vs H1 => sp vs H1 Q E0) (hdb : (x == ("__debug__" : Str)) = false := by decide) (he : starEach (e :: es) X.env = (false, eval e X.env) :: starEach es X.env := by rfl) (hpl : (backTo pos (starEach es X.env)).any (·.1) = false := by rfl) :
    wpeU X (.Call (.Name x p) (e :: es) [] pos) σ H Q := fun pins s I => by
  refine wpAny_Call_Name_kw (ld_glob I hg hm ?_ hdb)
  refine PySem.W.callWith_K (h₀ := X.base) I.ok.mod.kin hk (thn (ha.run pos pins s σ H _ I h) fun us s1 ⟨vs, H1, I1, r, q⟩ => ⟨I1.kIn, ?_⟩) he hpl
  have hl : us.length = ps.length := by rw [← r.length]; exact F.len _ _ _ _ q
  have hbb := hb s1 us I1.kIn (by rw [List.append_nil]; exact hl)
  rw [List.append_nil] at hbb
  refine wpAny_call (codeAny_mono (F.run X.A X.stack s1 H1 ⟨us, []⟩ us vs Q E0 hr I1.env0 hbb r q) fun r s' hq => ?_)
  obtain ⟨hk, hq⟩ := hq
  cases r with
  | error e => exact hq.elim
  | ok fl =>
    cases fl with
    | ret u => exact ⟨hk _ rfl, I1.after hq⟩
    | next => exact False.elim hq
    | brk => exact False.elim hq
    | cont => exact False.elim hq
theorem efU_callL {t : TC X.K α} {c : Cel X.K β} {ce : Cel X.K τ} {f : τ → α → Option (β × τ)} {J : β → En X.K → Option ρ → Prop} {k : Nat} {ps : List Str} (i m : Nat) (F : FnPU X.prog X.w X.K X.mg X.base x k ps (spMN X.K ce t f c)) (hr : Room k X.A)
    (h : EA X C Γ es t r fun y Γ1 r1 => ∃ tp, Γ1[m]? = some (.ln ce tp) ∧ lnU m 0 Γ1 = true ∧ ∃ k, r1 = f tp y >>= k ∧ ∀ z, J z.1 (Γ1.set m (.ln ce z.2)) (k z)) (hΓ : Γ[i]? = some .lp := by rfl) (hN : X.N[i]? = some n := by rfl)
    (hv : Vis X.env.scope n := by first | exact Or.inl rfl | exact Or.inr (Or.inl rfl) | exact Or.inr (Or.inr rfl)) (hd : (n == ("__debug__" : Str)) = false := by decide) (hcd : (n == ("__classdict__" : Str)) = false := by decide)
    (hg : Gl X x := by rfl) (hdb : (x == ("__debug__" : Str)) = false := by decide)
    (he : starEach (.Name n p2 :: es) X.env = (false, eval (.Name n p2) X.env) :: starEach es X.env := by rfl) (hpl : (backTo pos (starEach es X.env)).any (·.1) = false := by rfl) : EFU X C Γ (.Call (.Name x p) (.Name n p2 :: es) [] pos) c r J := .mk fun z σ W H Q s hrr kk => by
  obtain ⟨fa, fd, h1, h2, h3, h4⟩ := F.ex
  refine u_call h4 hr hg h1 h2 h3 (pa_cons (pe_var hN hv hd hcd) pa_w he) ?_ hdb he hpl
  obtain ⟨la, ca, ea⟩ := s.sl i _ hΓ
  refine ⟨_, getD_some ea, h z σ W H _ s hrr fun y Γ1 r1 W1 H1 vs j1 hr1 s1 w1 q1 => ?_⟩
  obtain ⟨tp, g1, g2, k2, e2, j2⟩ := j1
  rw [e2] at hr1
  obtain ⟨t2, et, ht⟩ := bind_some hr1
  obtain ⟨la', o, ca', wa, ha, hc⟩ := s1.lent g1
  rw [ca] at ca'; cases ca'
  refine ⟨W1, la, o, vs, tp, y, rfl, s1.sub, wa, ha, hc, q1, t2, et, fun W2 H2 pp o2 o' w2 sub2 hh nw2 ha2 hc2 wp hp h2p ct => ?_⟩
  have cp : C.H pp = none := by
    cases q : C.H pp with
    | none => rfl
    | some u => exact absurd hp (s1.li pp (by rw [q]; simp))
  have s2 := s1.turnL g1 ca w2 sub2 nw2 hh ha2 hc2 g2
  exact kk t2.1 _ _ W2 H2 pp o2 (j2 t2) ht s2 (w1.trans w2) wp cp h2p ct (fun j oj => s1.apart hp j (own_ne oj fun z => by subst z; exact own_no rfl oj)) fun z => s1.lb pp (.inr z) hp
end
section
variable {P : Program} {w : World} {K : Frag} {mg : Str → Option Value} {base : Heap} {nm qual : Str} {params : Arguments} {body : List Stmt} {scope : Scope} {fa : Addr} {fd : FuncData} {N ps : List Str} {k : Nat} {α β τ : Type}
theorem fn_topNLU {t : TC K α} {en : α → En K} {ce : Cel K τ} {f : τ → α → Option (β × τ)} {c : Cel K β} (F : FunD K nm qual params body scope [] [] fa fd) (S : FnScope N ps scope) (hp : PEn t en) (Γ0 : τ → α → En K)
    (hb : ∀ cdv A outer s H E, Room k (A.deeper (envOfC qual scope s.heap.objs.size fa cdv)) → ∀ (C : Ct), (∀ a, ¬ C.B a) → ∀ tp x, GK (bX P w K mg base N qual scope fa cdv A outer s H E) C (wpBU (bX P w K mg base N qual scope fa cdv A outer s H E) body) (Γ0 tp x) (f tp x) (goTopNL C c ce))
    (hn : t.n + 1 = ps.length := by rfl) (hΓ : ∀ tp x, Γ0 tp x = .lp :: (en x ++ (List.replicate (N.length - (t.n + 1)) .no ++ [.ln ce tp])) := by intro _ _; rfl) : FnU P w K mg base (k + 1) fa fd ps (spMN K ce t f c) := by
  refine fnU_of F S (fun vs H Q E h => ?_) fun cdv A outer s H vs Q E hr h => ?_
  · obtain ⟨W, a, o, us, tp, x, rfl, _, _, _, _, q, _⟩ := h
    rw [List.length_cons, t.len q, hn]
  · obtain ⟨W, a, o, us, tp, x, rfl, sb, wa, ha, hc, q, z, hz, kk⟩ := h
    have s0 := start_satL (N := N) (m := N.length - (t.n + 1)) hp q sb wa ha hc
    rw [← hΓ tp x] at s0
    refine (hb cdv A outer s H E hr ⟨W, H, fun _ => False, some a⟩ (fun _ z => z) tp x).run z _ W H _ s0 hz (fun _ _ _ _ _ j => j.elim) (fun _ _ _ _ _ j => j.elim) (fun _ _ _ _ _ j => j.elim) (fun y v Γ' σ' W' H' e s' _ q' => ?_)
    have e : y = z := e
    subst e
    obtain ⟨⟨p, o2, rfl, g1, g2, g3, g4⟩, a', o', h2, h3, h4⟩ := q'
    cases h2
    exact kk W' H' p o2 o' s'.old s'.sub (fun b u hb h => s'.fr b u h (fun z => z) fun z => hb (Option.some.inj z).symm) s'.nw h3 h4 g1 g2 g3 g4
theorem fnpU_of {x : Str} {sp : Sp} (hm : mg x = some (.ref fa)) (F : FunD K nm qual params body scope [] [] fa fd) (G : FnU P w K mg base k fa fd ps sp)
    (h : ∀ (kV doc pm : Value) (an : Option Addr) (cdv ct : Value) (us : List Value), us.length = ps.length → bindArgs (PySem.W.fnOf nm qual params body scope .none kV doc pm an cdv ct) ⟨us, []⟩ = pure (ps.zip us)) : FnPU P w K mg base x k ps sp :=
  ⟨fa, fd, hm, F.kp, F.bindsN h, G⟩
end
end Ty

set_option maxHeartbeats 4000000
namespace Ty
open PySem PySem.Spec PyProof.Rows L2
/-! ### enumerate of a tuple -/
theorem meets_enumerate_newB1 {v : Value} {o : Obj} {H : Heap → Prop} (B : Begins v o H) :
    Meets (Builtin.«enumerate.__new__» ⟨[.type "enumerate", v], []⟩) (fun _ R s => H s.heap ∧
      R (.ok (.ret (.ref (s.heap.push o).objs.size))) { s with heap := (s.heap.push o).push { cls := .type "enumerate", data := .fields #[.none, .bool false, .ref s.heap.objs.size, rawInt 0, .none, .none] } }) :=
  .of_wp fun prog w A R s h => by
    obtain ⟨hp, g, d, tk, os⟩ := s; obtain ⟨h1, h⟩ := h
    have hsub := sub_enumerate
    have q1 : ∀ {A' : Around} {E : Value → Shared → Prop} {Q : Value → Shared → Prop}, Q (.ref hp.objs.size) ⟨hp.push o, g, d, tk, os⟩ → wpAny (model prog w) A' (pyIter v) Q E ⟨hp, g, d, tk, os⟩ :=
      fun q => B.iter prog w _ _ ⟨hp, g, d, tk, os⟩ _ h1 q
    wp_walk using q1
    refine wpAny_stack_any fun st => wpAny_pure ?_
    split
    · rename_i c _ _ _ _ _
      cases (c == Value.type "enumerate")
      · wp_walk using q1
        exact ⟨_, rfl, h⟩
      · wp_walk using q1
        exact ⟨_, rfl, h⟩
    · wp_walk using q1
      exact ⟨_, rfl, h⟩
section
variable {prog : Program} {w : World} {A : Around} {E : Value → Shared → Prop} {s : Shared}
theorem call_enumerate_B {v : Value} {o : Obj} {H : Heap → Prop} {Q : Value → Shared → Prop} (B : Begins v o H) (h1 : H s.heap)
    (h : ∀ h', IsEnum h' (s.heap.objs.size + 1) s.heap.objs.size 0 .none → h'.get? s.heap.objs.size = some o → h'.objs.size = s.heap.objs.size + 2 →
      (∀ b o, s.heap.get? b = some o → h'.get? b = some o) → Q (.ref (s.heap.objs.size + 1)) { s with heap := h' }) :
    wpAny (model prog w) A (call (.type "enumerate") [v]) Q E s := by
  refine callType_new F.called_enumerate (by decide) (F.typeCall_enumerate_1 _) (F.newCall_enumerate_1 _) (fun obj => F.args_object_init_2 obj _) F.entry_enumerate_new
    (meets_enumerate_newB1 B) ⟨h1, ?_⟩
  have hz : (s.heap.push o).objs.size = s.heap.objs.size + 1 := Heap.size_push ..
  show _ ∧ _
  rw [hz]
  have he : IsEnum ((s.heap.push o).push { cls := .type "enumerate", data := .fields #[.none, .bool false, .ref s.heap.objs.size, rawInt 0, .none, .none] }) (s.heap.objs.size + 1) s.heap.objs.size 0 .none := by
    have := Heap.get?_push_size (s.heap.push o) (o := { cls := .type "enumerate", data := .fields #[.none, .bool false, .ref s.heap.objs.size, rawInt 0, .none, .none] }) rfl
    rw [hz] at this; exact this
  refine ⟨⟨_, he, rfl⟩, h _ he (Heap.get?_push_of_some _ (Heap.get?_push_size _ B.free)) (by rw [Heap.size_push, hz]) fun b o x => Heap.get?_push_of_some _ (Heap.get?_push_of_some _ x)⟩
end
/-- the tuple at a, each item in a new pair -/
def IteT (K : PySem.W.Frag) (a : Addr) : It :=
  ⟨fun i H => ∃ (xs : List V) (x : V), SqT K H a xs ∧ xs[i]? = some x, fun i H v H' => ∃ T x, v = .ref T ∧ H T = none ∧ H' = upd H T (.tup [.int (i : Nat), x]) ∧ ∀ xs, SqT K H a xs → xs[i]? = some x, fun i H => ∃ xs : List V, SqT K H a xs ∧ xs.length ≤ i⟩
theorem turn_enumT {P : Program} {w : World} {K : PySem.W.Frag} {elts : List Expr} {kk : Nat} {tpos : Pos} (a e it : Addr) (hai : a ≠ it) (hae : a ≠ e) :
    Turn P w K (.Tuple elts kk tpos) (IteT K a) [e, it] e (fun i h => (∃ old, IsEnum h e it ((i : Nat) : Int) old) ∧ h.IsTupleIter it a i ∧ e ≠ it) where
  mem := by simp
  obj := fun i h st b hb => by
    obtain ⟨⟨old, he⟩, ⟨o, ho, hc, hd⟩, _⟩ := st
    have e' : b = e ∨ b = it := by simpa using hb
    rcases e' with z | z
    · rw [z]; exact ⟨_, he, fun v q => nomatch q⟩
    · rw [z]; exact ⟨o, ho, fun v q => by rw [hd] at q; cases q⟩
  keep := fun i h h' st k => let ⟨⟨old, he⟩, hi, hne⟩ := st; ⟨⟨old, k e (by simp) _ he⟩, hi.at fun o q => k it (by simp) o q, hne⟩
  item := by
    intro X hP hw hK hc i pins s σ H E I hf st hg
    subst hP hw hK
    obtain ⟨⟨old, he⟩, hit, hne⟩ := st
    obtain ⟨xs, x, hq, hx⟩ := hg
    obtain ⟨its, rv, p, hz⟩ := I.tuple hq
    obtain ⟨u, hu, ru⟩ := rv.get hx
    have hel : e < s.heap.objs.size := Heap.lt_size he
    have hil : it < s.heap.objs.size := by obtain ⟨_, q, _⟩ := hit; exact Heap.lt_size q
    have hlt : i < its.toArray.size := by
      have := (List.getElem?_eq_some_iff.mp hu).1
      simpa using this
    refine wpAny_pyNext_enum_itemC (Draws.tuple (show X.A.in1.handled = none from I.ok.hd hc) it a hai its.toArray) he ⟨hit, p⟩ hlt hne (by simp [hne, Ne.symm hae]) fun y h' tk hy ho hst' hT hsz hk => ?_
    obtain ⟨hit', _⟩ := hst'
    have ey : y = u := by
      have hu' : its.toArray[i]? = some u := by simpa using hu
      have hy' : its.toArray[i]? = some y := hy
      rw [hu'] at hy'
      exact (Option.some.inj hy').symm
    subst ey
    refine ⟨_, rfl, wpAny_letOwnedTupleGo_enum (s := { s with heap := h', toks := tk + 1 }) ho fun h'' he' sb => ?_⟩
    have hT2 : h''.get? s.heap.objs.size = some { cls := .type "tuple", data := .seq #[.int i tk, y] } := (sb.2 _ (Nat.ne_of_gt hel)).trans hT
    have new : ObjOk X.prog X.w (upd H s.heap.objs.size (.tup [.int (i : Nat), x])) h'' s.heap.objs.size (.tup [.int (i : Nat), x]) :=
      ⟨by show 2 ≤ sizeLine; decide, [.int i tk, y], .cons ⟨_, rfl⟩ (.cons ru .nil), ⟨_, hT2, rfl, _, rfl⟩⟩
    have I1 : Inv X pins σ (upd H s.heap.objs.size (.tup [.int (i : Nat), x])) { s with heap := h'', toks := tk + 1 } :=
      I.turnedNew (ch := [e, it]) (fun b ob hb q => (sb.2 b (fun z => hb (by simp [z]))).trans (hk b ob (fun z => hb (by simp [z])) (fun z => hb (by simp [z])) q)) hf (Nat.le_refl _) new
    refine ⟨.ref s.heap.objs.size, _, I1, rfl, ⟨_, x, rfl, I.hok.fresh (Nat.le_refl _), rfl, fun ys hy => by rw [I.tuple_inj hy hq]; exact hx⟩, ⟨⟨y, ?_⟩, hit'.at fun o q => (sb.2 it (Ne.symm hne)).trans q, hne⟩, fun b hb => ?_⟩
    · have e1 : ((i + 1 : Nat) : Int) = (i : Int) + 1 := by omega
      rw [e1]; exact he'
    · have hb' : b < s.heap.objs.size := by
        have e' : b = e ∨ b = it := by simpa using hb
        rcases e' with z | z
        · rw [z]; exact hel
        · rw [z]; exact hil
      rw [upd_ne (Nat.ne_of_lt hb')]
      exact (hf b hb).1
  done := by
    intro X hP hw hK hc i pins s σ H E I hf st hg
    subst hP hw hK
    obtain ⟨⟨old, he⟩, hit, hne⟩ := st
    obtain ⟨xs, hq, hx⟩ := hg
    obtain ⟨its, rv, p, hz⟩ := I.tuple hq
    obtain ⟨f0, f1, f2, f3, f4, f5⟩ := hf it (by simp)
    have hl := rv.length
    have D : Draws (model X.prog X.w).prog X.w X.A.in1 it [it, a] i (fun _ _ => True) (fun j h => j = i ∧ h.IsTupleIter it a i ∧ h.IsTuple a its.toArray) := {
      live := fun _ _ st => let ⟨o, ho, _⟩ := st.2.1; ⟨o, ho⟩
      frame := fun _ _ _ st hk => ⟨st.1, st.2.1.at fun o e => hk it (by simp) o e, st.2.2.at fun o e => hk a (by simp) o e⟩
      item := fun j s Q E hj st _ => absurd st.1 (by omega)
      done := fun s Q E st hE => wpAny_nextOf_tuple_end (show X.A.in1.handled = none from I.ok.hd hc) st.2.1 st.2.2 (by simp; omega) hE }
    exact wpAny_pyNext_enum_endD D he ⟨rfl, hit, p⟩ fun h' eb => ⟨rfl, I.turned (t' := s.toks) (fun b o hb q => eb b o hb q) f0 f1 f3 f4 f5⟩
  self := fun A i s Q E st h => let ⟨⟨_, he⟩, _⟩ := st; wpAny_pyIter_enum he h
/-- enumerate of a list or a tuple -/
def iEnumA (K : PySem.W.Frag) (ta : TA) : TI := fun σ H R => ta σ H fun vs H1 => ∃ a xs, vs = [.ref a] ∧ SqT K H1 a xs ∧ R (IteT K a) H1
theorem pi_enumT {X : Cx} {e : Expr} {ta : TA} {p pos tpos : Pos} {elts : List Expr} {kk : Nat} (hg : Gl X "enumerate") (hm : X.mg "enumerate" = none) (ha : PA X [e] ta) (hs : starEach [e] X.env = [(false, eval e X.env)] := by rfl) :
    PI X (.Tuple elts kk tpos) (.Call (.Name "enumerate" p) [e] [] pos) (iEnumA X.K ta) := by
  refine ⟨fun pins s σ H R I h => ?_⟩
  refine Call_ (ld_blt I hg hm boot_enumerate (PyProof.Rows.callWith_type1 (thn (ha.run pos pins s σ H _ I h) fun us s1 ⟨vs, H1, I1, r1, q1⟩ => ?_) hs rfl))
  obtain ⟨a, xs, ex, hq, q⟩ := q1
  subst ex
  cases r1 with
  | cons r rr =>
    cases rr
    cases r
    obtain ⟨its, rv, p', hz⟩ := I1.tuple hq
    have hal : a < s1.heap.objs.size := by obtain ⟨o, ho, _⟩ := id p'; exact Heap.lt_size ho
    refine call_enumerate_B (begins_tuple a its.toArray) p' fun h' he hit hsz hk => wpAny_pyIter_enum he ?_
    have I2 : Inv X pins σ H1 { s1 with heap := h' } := I1.kept (t' := s1.toks) hk
    refine ⟨s1.heap.objs.size + 1, [s1.heap.objs.size + 1, s1.heap.objs.size], _, _, H1, rfl, I2, turn_enumT a (s1.heap.objs.size + 1) s1.heap.objs.size (Nat.ne_of_lt hal) (Nat.ne_of_lt (Nat.lt_succ_of_lt hal)), ⟨⟨.none, he⟩, ⟨_, hit, rfl, rfl⟩, Nat.succ_ne_self _⟩, fun b hb => ?_, q⟩
    have e' : b = s1.heap.objs.size + 1 ∨ b = s1.heap.objs.size := by simpa using hb
    have hle : s1.heap.objs.size ≤ b := by
      rcases e' with z | z
      · rw [z]; exact Nat.le_add_right _ _
      · rw [z]; exact Nat.le_refl _
    exact I1.fpOk hle (I1.hok.fresh hle)
def enR {α : Type} (xs : List α) : List (Int × α) := (List.range xs.length).zip xs |>.map fun p => ((p.1 : Int), p.2)
theorem enR_get {α : Type} {xs : List α} {i : Nat} {x : α} (h : xs[i]? = some x) : (enR xs)[i]? = some ((i : Int), x) := by
  obtain ⟨hi, _⟩ := List.getElem?_eq_some_iff.mp h
  unfold enR
  have e : ((List.range xs.length).zip xs)[i]? = some (i, x) := List.getElem?_zip_eq_some.mpr ⟨List.getElem?_range hi, h⟩
  rw [List.getElem?_map, e]; rfl
theorem enR_len {α : Type} {xs : List α} : (enR xs).length = xs.length := by unfold enR; simp
section
variable {X : Cx} {C : Ct} {ρ α β : Type} {Γ : En X.K} {a : Expr} {r : Option ρ} {pos p : Pos}
theorem ei_enumT {elts : List Expr} {kk : Nat} {tpos : Pos} {c : Cod X.K α} {J : List (Int × α) → En X.K → Option ρ → Prop} (hm : X.mg "enumerate" = none)
    (h : EA X C Γ [a] (tc1 (cSeq c)) r fun x Γ1 r1 => J (enR x) Γ1 r1) (hg : Gl X "enumerate" := by rfl)
    (hs : starEach [a] X.env = [(false, eval a X.env)] := by rfl) :
    EI X C Γ (.Tuple elts kk tpos) (.Call (.Name "enumerate" p) [a] [] pos) (cTup (tcC cInt (tc1 c))) r J := .mk fun z σ W H R s hr k =>
  w_pi (pi_enumT hg hm pa_wL hs) (h z σ W H _ s hr fun x Γ1 r1 W1 H1 vs j1 hr1 s1 w1 q1 lo => by
    obtain ⟨v1, rfl, ⟨a1, xs, rfl, h2, h3⟩⟩ := q1
    refine ⟨a1, xs, rfl, Same.tup s1.sub h2, k _ Γ1 r1 W1 H1 _ j1 hr1 s1 w1 ⟨?_, fun i W2 H2 w2 sb => ?_⟩⟩
    · rw [enR_len, ← h3.length]
      exact sqt_len lo (Same.tup s1.sub h2)
    · have t1 : SqT X.K H2 a1 xs := Same.tup sb (Same.tup w2 h2)
      rw [enR_len]
      refine ⟨fun hi => ⟨xs, t1, ?_⟩, fun hi => ?_⟩
      · rw [h3.length]; omega
      obtain ⟨v, e1, e2⟩ := h3.get (i := i) (x := x[i]) (by simp [hi])
      refine ⟨⟨xs, v, t1, e1⟩, fun w H' ⟨T, v', ew, hT, eH, y1⟩ => ?_⟩
      have y1 := y1 xs t1
      rw [e1] at y1; cases y1
      subst ew eH
      have G := Grow.new (o := .tup [.int (i : Nat), v]) sb hT
      exact ⟨_, ((i : Int), x[i]), G, enR_get (List.getElem?_eq_getElem hi), T, [.int (i : Nat), v], rfl, SqT.of upd_same, .int (i : Nat), [v], rfl, rfl, v, rfl, c.mono (w2.trans G.w) e2⟩)
end
end Ty

set_option maxHeartbeats 4000000
/-! a tuple some times over -/
namespace Ty
open PySem PySem.Spec PyProof.Rows L2
section
variable {X : Cx} {α : Type}
def repR (x : List α) (k : Int) : Option (List α) := if x ≠ [] ∧ 2 ≤ k ∧ k ≤ 1000 ∧ x.length ≤ 1000 then some (List.replicate k.toNat x).flatten else none
theorem Row.rep {K : Frag} {c : Cod K α} {H : Hp} {vs : List V} {xs : List α} (h : Row c H vs xs) : ∀ n : Nat, Row c H (List.replicate n vs).flatten (List.replicate n xs).flatten
  | 0 => .nil
  | n + 1 => by
    rw [List.replicate_succ, List.replicate_succ, List.flatten_cons, List.flatten_cons]
    exact h.append (Row.rep h n)
theorem o_repS {c : Cod X.K α} : Op2 X (binaryOp .Mult) (cSeq c) cInt (cSeq c) repR := ⟨_, op_repT, fun W H x y v u z Q sb h1 h2 e k => by
  obtain ⟨ad, vs, rfl, a2, a3⟩ := h1
  unfold repR at e
  split at e
  · rename_i hc
    obtain ⟨c1, c2, c3, c4⟩ := hc
    cases e
    refine ⟨ad, y, vs, rfl, h2, Same.tup sb a2, fun hx => ?_, c2, c3, by rw [a3.length]; exact c4, fun pp hp => ?_⟩
    · subst hx
      cases a3
      exact c1 rfl
    · have G := Grow.new (o := .tup (List.replicate y.toNat vs).flatten) sb hp
      exact k _ _ _ G ⟨pp, _, rfl, SqT.of upd_same, (a3.rep _).mono G.w⟩
  · cases e⟩
end
end Ty

set_option maxHeartbeats 0
namespace K02
open PySem PySem.Spec PyProof.Rows L2 Ty
def top (i : Nat) : Stmt := PySem.Challenge.pw_wherehouse_k02_solidities_and_regions_of.main.body.getD i (.Pass ⟨0, 0, 0, 0⟩)
abbrev st_longer : Stmt := top 2
abbrev st_names_of : Stmt := top 3
abbrev st_number_of : Stmt := top 4
abbrev st_is_bar : Stmt := top 5
abbrev st_region_of : Stmt := top 7
abbrev st_box_of : Stmt := top 8
abbrev st_count_of_moments : Stmt := top 9
abbrev st_hindered_by : Stmt := top 10
abbrev st_solid_pairs : Stmt := top 11
abbrev st_solidities : Stmt := top 12
abbrev st__law_tape : Stmt := top 14
abbrev st__law_draw : Stmt := top 15
abbrev st__law_pick : Stmt := top 16
abbrev st__law_turns : Stmt := top 17
abbrev st__law_shuffled : Stmt := top 18
abbrev st__law_put : Stmt := top 19
abbrev st__law_same : Stmt := top 20
abbrev st__law_names : Stmt := top 21
abbrev st__law_low : Stmt := top 22
abbrev st__law_place : Stmt := top 23
abbrev st__law_sort : Stmt := top 24
abbrev st__law_point : Stmt := top 25
abbrev st__law_covered : Stmt := top 26
abbrev st__law_inner : Stmt := top 27
abbrev st__law_cuts : Stmt := top 28
abbrev st__law_few : Stmt := top 29
abbrev st__law_lap : Stmt := top 30
abbrev st__law_pairs : Stmt := top 31
abbrev st__law_s_head : Stmt := top 32
abbrev st__law_s_firm : Stmt := top 33
abbrev st__law_s_stretch : Stmt := top 34
abbrev st__law_s_loose : Stmt := top 35
abbrev st__law_s_world : Stmt := top 36
abbrev st__law_s_placing : Stmt := top 37
abbrev st__law_s_other : Stmt := top 38
abbrev st__law_region : Stmt := top 39
abbrev st__law_solid_right : Stmt := top 40
abbrev st__law_changed : Stmt := top 41
abbrev st__law_longer_head : Stmt := top 42
abbrev st__law_region_right : Stmt := top 43
abbrev st_law : Stmt := top 44
def d_longer : He.DefD := ⟨("longer", none), "longer", "longer", defArgs st_longer, defBody st_longer, defScope st_longer, [], []⟩
def d_names_of : He.DefD := ⟨("names_of", none), "names_of", "names_of", defArgs st_names_of, defBody st_names_of, defScope st_names_of, [], []⟩
def d_number_of : He.DefD := ⟨("number_of", none), "number_of", "number_of", defArgs st_number_of, defBody st_number_of, defScope st_number_of, [], []⟩
def d_is_bar : He.DefD := ⟨("is_bar", none), "is_bar", "is_bar", defArgs st_is_bar, defBody st_is_bar, defScope st_is_bar, [], []⟩
def d_region_of : He.DefD := ⟨("region_of", none), "region_of", "region_of", defArgs st_region_of, defBody st_region_of, defScope st_region_of, [], []⟩
def d_box_of : He.DefD := ⟨("box_of", none), "box_of", "box_of", defArgs st_box_of, defBody st_box_of, defScope st_box_of, [], []⟩
def d_count_of_moments : He.DefD := ⟨("count_of_moments", none), "count_of_moments", "count_of_moments", defArgs st_count_of_moments, defBody st_count_of_moments, defScope st_count_of_moments, [], []⟩
def d_hindered_by : He.DefD := ⟨("hindered_by", none), "hindered_by", "hindered_by", defArgs st_hindered_by, defBody st_hindered_by, defScope st_hindered_by, [], []⟩
def d_solid_pairs : He.DefD := ⟨("solid_pairs", none), "solid_pairs", "solid_pairs", defArgs st_solid_pairs, defBody st_solid_pairs, defScope st_solid_pairs, [], []⟩
def d_solidities : He.DefD := ⟨("solidities", none), "solidities", "solidities", defArgs st_solidities, defBody st_solidities, defScope st_solidities, [], []⟩
def d__law_tape : He.DefD := ⟨("_law_tape", none), "_law_tape", "_law_tape", defArgs st__law_tape, defBody st__law_tape, defScope st__law_tape, [], []⟩
def d__law_draw : He.DefD := ⟨("_law_draw", none), "_law_draw", "_law_draw", defArgs st__law_draw, defBody st__law_draw, defScope st__law_draw, [], []⟩
def d__law_pick : He.DefD := ⟨("_law_pick", none), "_law_pick", "_law_pick", defArgs st__law_pick, defBody st__law_pick, defScope st__law_pick, [], []⟩
def d__law_turns : He.DefD := ⟨("_law_turns", none), "_law_turns", "_law_turns", defArgs st__law_turns, defBody st__law_turns, defScope st__law_turns, [], []⟩
def d__law_shuffled : He.DefD := ⟨("_law_shuffled", none), "_law_shuffled", "_law_shuffled", defArgs st__law_shuffled, defBody st__law_shuffled, defScope st__law_shuffled, [], []⟩
def d__law_put : He.DefD := ⟨("_law_put", none), "_law_put", "_law_put", defArgs st__law_put, defBody st__law_put, defScope st__law_put, [], []⟩
def d__law_same : He.DefD := ⟨("_law_same", none), "_law_same", "_law_same", defArgs st__law_same, defBody st__law_same, defScope st__law_same, [], []⟩
def d__law_names : He.DefD := ⟨("_law_names", none), "_law_names", "_law_names", defArgs st__law_names, defBody st__law_names, defScope st__law_names, [], []⟩
def d__law_low : He.DefD := ⟨("_law_low", none), "_law_low", "_law_low", defArgs st__law_low, defBody st__law_low, defScope st__law_low, [], []⟩
def d__law_place : He.DefD := ⟨("_law_place", none), "_law_place", "_law_place", defArgs st__law_place, defBody st__law_place, defScope st__law_place, [], []⟩
def d__law_sort : He.DefD := ⟨("_law_sort", none), "_law_sort", "_law_sort", defArgs st__law_sort, defBody st__law_sort, defScope st__law_sort, [], []⟩
def d__law_point : He.DefD := ⟨("_law_point", none), "_law_point", "_law_point", defArgs st__law_point, defBody st__law_point, defScope st__law_point, [], []⟩
def d__law_covered : He.DefD := ⟨("_law_covered", none), "_law_covered", "_law_covered", defArgs st__law_covered, defBody st__law_covered, defScope st__law_covered, [], []⟩
def d__law_inner : He.DefD := ⟨("_law_inner", none), "_law_inner", "_law_inner", defArgs st__law_inner, defBody st__law_inner, defScope st__law_inner, [], []⟩
def d__law_cuts : He.DefD := ⟨("_law_cuts", none), "_law_cuts", "_law_cuts", defArgs st__law_cuts, defBody st__law_cuts, defScope st__law_cuts, [], []⟩
def d__law_few : He.DefD := ⟨("_law_few", none), "_law_few", "_law_few", defArgs st__law_few, defBody st__law_few, defScope st__law_few, [], []⟩
def d__law_lap : He.DefD := ⟨("_law_lap", none), "_law_lap", "_law_lap", defArgs st__law_lap, defBody st__law_lap, defScope st__law_lap, [], []⟩
def d__law_pairs : He.DefD := ⟨("_law_pairs", none), "_law_pairs", "_law_pairs", defArgs st__law_pairs, defBody st__law_pairs, defScope st__law_pairs, [], []⟩
def d__law_s_head : He.DefD := ⟨("_law_s_head", none), "_law_s_head", "_law_s_head", defArgs st__law_s_head, defBody st__law_s_head, defScope st__law_s_head, [], []⟩
def d__law_s_firm : He.DefD := ⟨("_law_s_firm", none), "_law_s_firm", "_law_s_firm", defArgs st__law_s_firm, defBody st__law_s_firm, defScope st__law_s_firm, [], []⟩
def d__law_s_stretch : He.DefD := ⟨("_law_s_stretch", none), "_law_s_stretch", "_law_s_stretch", defArgs st__law_s_stretch, defBody st__law_s_stretch, defScope st__law_s_stretch, [], []⟩
def d__law_s_loose : He.DefD := ⟨("_law_s_loose", none), "_law_s_loose", "_law_s_loose", defArgs st__law_s_loose, defBody st__law_s_loose, defScope st__law_s_loose, [], []⟩
def d__law_s_world : He.DefD := ⟨("_law_s_world", none), "_law_s_world", "_law_s_world", defArgs st__law_s_world, defBody st__law_s_world, defScope st__law_s_world, [], []⟩
def d__law_s_placing : He.DefD := ⟨("_law_s_placing", none), "_law_s_placing", "_law_s_placing", defArgs st__law_s_placing, defBody st__law_s_placing, defScope st__law_s_placing, [], []⟩
def d__law_s_other : He.DefD := ⟨("_law_s_other", none), "_law_s_other", "_law_s_other", defArgs st__law_s_other, defBody st__law_s_other, defScope st__law_s_other, [], []⟩
def d__law_region : He.DefD := ⟨("_law_region", none), "_law_region", "_law_region", defArgs st__law_region, defBody st__law_region, defScope st__law_region, [], []⟩
def d__law_solid_right : He.DefD := ⟨("_law_solid_right", none), "_law_solid_right", "_law_solid_right", defArgs st__law_solid_right, defBody st__law_solid_right, defScope st__law_solid_right, [], []⟩
def d__law_changed : He.DefD := ⟨("_law_changed", none), "_law_changed", "_law_changed", defArgs st__law_changed, defBody st__law_changed, defScope st__law_changed, [], []⟩
def d__law_longer_head : He.DefD := ⟨("_law_longer_head", none), "_law_longer_head", "_law_longer_head", defArgs st__law_longer_head, defBody st__law_longer_head, defScope st__law_longer_head, [], []⟩
def d__law_region_right : He.DefD := ⟨("_law_region_right", none), "_law_region_right", "_law_region_right", defArgs st__law_region_right, defBody st__law_region_right, defScope st__law_region_right, [], []⟩
def d_law : He.DefD := ⟨("law", none), "law", "law", defArgs st_law, defBody st_law, defScope st_law, [], []⟩
def fn : List He.DefD := [d_longer, d_names_of, d_number_of, d_is_bar, d_region_of, d_box_of, d_count_of_moments, d_hindered_by, d_solid_pairs, d_solidities, d__law_tape, d__law_draw, d__law_pick, d__law_turns, d__law_shuffled, d__law_put, d__law_same, d__law_names, d__law_low, d__law_place, d__law_sort, d__law_point, d__law_covered, d__law_inner, d__law_cuts, d__law_few, d__law_lap, d__law_pairs, d__law_s_head, d__law_s_firm, d__law_s_stretch, d__law_s_loose, d__law_s_world, d__law_s_placing, d__law_s_other, d__law_region, d__law_solid_right, d__law_changed, d__law_longer_head, d__law_region_right, d_law]
def fa : List He.Fa := [.glo "longer", .glo "names_of", .glo "number_of", .glo "is_bar", .glo "region_of", .glo "box_of", .glo "count_of_moments", .glo "hindered_by", .glo "solid_pairs", .glo "solidities", .glo "_law_tape", .glo "_law_draw", .glo "_law_pick", .glo "_law_turns", .glo "_law_shuffled", .glo "_law_put", .glo "_law_same", .glo "_law_names", .glo "_law_low", .glo "_law_place", .glo "_law_sort", .glo "_law_point", .glo "_law_covered", .glo "_law_inner", .glo "_law_cuts", .glo "_law_few", .glo "_law_lap", .glo "_law_pairs", .glo "_law_s_head", .glo "_law_s_firm", .glo "_law_s_stretch", .glo "_law_s_loose", .glo "_law_s_world", .glo "_law_s_placing", .glo "_law_s_other", .glo "_law_region", .glo "_law_solid_right", .glo "_law_changed", .glo "_law_longer_head", .glo "_law_region_right", .glo "law", .free "abs", .free "bool", .free "enumerate", .free "int", .free "isinstance", .free "len", .free "list", .free "max", .free "min", .free "range", .free "set", .free "sorted", .free "str", .free "tuple", .glo "BAR_SORTS"]
def ts : List He.Tab := []
def ex (K : Frag) : Bool := He.tupB K "BAR_SORTS" [.str "upright", .str "lying"] && tupO K "BAR_SORTS"
abbrev R : PySem.W.OpenRow := PySem.W.OpenLaw.row PySem.Challenge.rw_wherehouse_k02_solidities_and_regions_of
abbrev hk : PySem.W.Hook := He.hookX 4 fa fn ts [] ex
def ob (s : PySem.W.SharedT) : He.AlX := He.obsX 4 fa fn ts [] ex (HandSHeadRun.getT s)
theorem ob_eq (s : PySem.W.SharedT) : ob s = hk.obs s.abs := He.obsX_eq (HandSHeadRun.getT_eq s)
def loose0 : List Str := ["longer", "names_of", "number_of", "is_bar", "region_of", "box_of", "count_of_moments", "hindered_by", "solid_pairs", "solidities", "_law_tape", "_law_draw", "_law_pick", "_law_turns", "_law_shuffled", "_law_put", "_law_same", "_law_names", "_law_low", "_law_place", "_law_sort", "_law_point", "_law_covered", "_law_inner", "_law_cuts", "_law_few", "_law_lap", "_law_pairs", "_law_s_head", "_law_s_firm"]
def loose1 : List Str := ["_law_s_stretch", "_law_s_loose", "_law_s_world", "_law_s_placing", "_law_s_other", "_law_region", "_law_solid_right", "_law_changed", "_law_longer_head", "_law_region_right", "BAR_SORTS"]
def loose : List Str := loose0 ++ loose1
theorem run (w : World) : HandSHeadRun.RunEq R (PySem.W.view R.prog [44]) hk ob 2000 loose w := by
  intro os
  kernel_rfl
end K02
set_option maxHeartbeats 4000000
/-! what the laws' own draws do, in plain Lean -/
namespace Ty
open PySem L2
def m_law_tape (a_script : (List Int)) : Option Tape :=
 forS a_script (7 : Int) (fun x2 (s1 : Int) => mulR s1 (31 : Int) >>= fun v3 =>
 fmodR (v3 + (absI x2)) (2147483647 : Int) >>= fun v4 =>
 some v4) >>= fun s1 =>
 some (⟨a_script, (0 : Int), (0 : Int), s1⟩)
def m_law_draw (tp : Tape) (a_many : Int) : Option (Int × Tape) :=
 (cond (decide ((tp.fld 2) = (0 : Int))) (lt (tp.fld 1) fun place_2 =>
 (cond (decide (place_2 < (tp.cells.length : Int))) (atI tp.cells place_2 >>= fun v4 =>
 lt (absI v4) fun number_5 =>
 some (number_5, tp)) (mulR (tp.fld 3) (48271 : Int) >>= fun v6 =>
 fmodR ((v6 + place_2) + (1 : Int)) (2147483647 : Int) >>= fun v7 =>
 lt ((tp.put 3 v7).fld 3) fun number_9 =>
 some (number_9, (tp.put 3 v7)))) >>= fun s3 =>
 powR (10 : Int) (18 : Int) >>= fun v11 =>
 cond (decide (s3.1 < v11)) (mulR s3.1 (48271 : Int) >>= fun v12 =>
 mulR place_2 (69621 : Int) >>= fun v13 =>
 fmodR ((v12 + v13) + (5 : Int)) (2147483647 : Int) >>= fun v14 =>
 mulR v14 (69621 : Int) >>= fun v15 =>
 fmodR v15 (2147483629 : Int) >>= fun v16 =>
 fmodR v16 (maxI a_many (1 : Int)) >>= fun v17 =>
 some (.rt (v17, (s3.2.put 1 (place_2 + (1 : Int)))))) (some (.nx ((s3.2.put 1 (place_2 + (1 : Int))).put 2 s3.1)))) (some (.nx tp)) : Option (Fl Tape (Int × Tape))) >>= (fun o => match o with
 | .nx s1 => lt (s1.fld 2) fun number_19 =>
 fdivR number_19 (maxI a_many (2 : Int)) >>= fun v20 =>
 fmodR number_19 (maxI a_many (1 : Int)) >>= fun v22 =>
 some (v22, (s1.put 2 v20))
 | .rt x => some x
 | .bk _ => none
 | .ct _ => none)
def m_law_pick {Aa : Type} (tp : Tape) (a_menu : (List Aa)) : Option (Aa × Tape) :=
 m_law_draw tp (a_menu.length : Int) >>= fun v1 =>
 atI a_menu v1.1 >>= fun v2 =>
 some (v2, v1.2)
def m_law_turns (tp : Tape) (a_many : Int) : Option ((List Int) × Tape) :=
 rng1 a_many >>= fun v1 =>
 rng1 a_many >>= fun v2 =>
 forS v2 (v1, ([] : (List Int)), tp) (fun x4 (s3 : ((List Int) × (List Int) × Tape)) => m_law_draw s3.2.2 (s3.1.length : Int) >>= fun v5 =>
 popAtR s3.1 v5.1 >>= fun v6 =>
 pushR s3.2.1 v6.1 >>= fun v7 =>
 some (v6.2, v7.2, v5.2)) >>= fun s3 =>
 m_law_draw s3.2.2 (3 : Int) >>= fun v8 =>
 atI ([a_many, a_many, (1 : Int)]) v8.1 >>= fun v9 =>
 some ((cutR s3.2.1 none (some v9)), v8.2)
def m_law_put (a_told : (List U)) (a_place : Int) (a_thing : U) : Option (List U) :=
 catR (cutR a_told none (some a_place)) ([a_thing]) >>= fun v1 =>
 catR v1 (cutR a_told (some (a_place + (1 : Int))) none) >>= fun v2 =>
 some v2
def m_law_same : Nat → U → U → Option Bool
  | 0, _, _ => none
  | fuel + 1, a_told, a_wanted =>
   isU "tuple" a_wanted >>= fun v1 =>
 cond v1 (isU "tuple" a_told >>= fun v2 =>
 (cond (!v2) (some true) (U.len a_told >>= fun v3 =>
 U.len a_wanted >>= fun v4 =>
 some (!decide (v3 = v4)))) >>= fun c5 =>
 cond c5 (some false) (U.len a_wanted >>= fun v6 =>
 rng1 v6 >>= fun v7 =>
 (forF v7 () (fun x9 (s8 : Unit) => U.get a_told x9 >>= fun v10 =>
 U.get a_wanted x9 >>= fun v11 =>
 m_law_same fuel v10 v11 >>= fun v12 =>
 cond (!v12) (some (.rt false)) (some (.nx ()))) : Option (Fl Unit Bool)) >>= (fun o => match o with
 | .nx s8 => some true
 | .rt x => some x
 | .bk _ => none
 | .ct _ => none))) (U.isNon a_wanted >>= fun v13 =>
 (cond v13 (some true) (U.isNon a_told >>= fun v14 =>
 some v14)) >>= fun c15 =>
 cond c15 (U.isNon a_wanted >>= fun v16 =>
 (cond v16 (U.isNon a_told >>= fun v17 =>
 some v17) (some false)) >>= fun c18 =>
 some c18) (isU "str" a_wanted >>= fun v19 =>
 cond v19 (isU "str" a_told >>= fun v20 =>
 (cond v20 (U.eq a_told a_wanted >>= fun v21 =>
 some v21) (some false)) >>= fun c22 =>
 some c22) (isU "bool" a_told >>= fun v23 =>
 isU "bool" a_wanted >>= fun v24 =>
 (cond (!decide (v23 = v24)) (some true) (isU "int" a_told >>= fun v25 =>
 some (!v25))) >>= fun c26 =>
 cond c26 (some false) (U.eq a_told a_wanted >>= fun v27 =>
 some v27))))
def m_law_low (a_n : Int) (a_d : Int) : Option (Int × Int) :=
 lt (absI a_n) fun a_1 =>
 lt (absI a_d) fun b_2 =>
 (whl (b_2.toNat + 1) (a_1, b_2) (fun (s3 : (Int × Int)) => cond (decide ((0 : Int) < s3.2)) (fmodR s3.1 s3.2 >>= fun v4 =>
 some (.nx (s3.2, v4))) (some (.bk s3))) : Option (Fl (Int × Int) (Int × Int))) >>= (fun o => match o with
 | .nx s3 => (cond (decide (a_d < (0 : Int))) (lt ((0 : Int) - s3.1) fun a_6 =>
 some a_6) (some s3.1)) >>= fun s5 =>
 fdivR a_n s5 >>= fun v7 =>
 fdivR a_d s5 >>= fun v8 =>
 some (v7, v8)
 | .rt x => some x
 | .bk _ => none
 | .ct _ => none)
/-! ### goes, with such a value -/
def Ok {α : Type} (m : Option α) (P : α → Prop) : Prop := ∃ v, m = some v ∧ P v
section
variable {α β γ : Type}
theorem Ok.bind {m : Option α} {k : α → Option β} {P : α → Prop} {Q : β → Prop} (h : Ok m P) (hk : ∀ v, P v → Ok (k v) Q) : Ok (m >>= k) Q := by
  obtain ⟨v, rfl, p⟩ := h; exact hk v p
theorem Ok.ret {v : α} {P : α → Prop} (p : P v) : Ok (some v) P := ⟨v, rfl, p⟩
theorem Ok.cond {b : Bool} {x y : Option α} {P : α → Prop} (h1 : b = true → Ok x P) (h2 : b = false → Ok y P) : Ok (cond b x y) P := by
  cases b; exact h2 rfl; exact h1 rfl
theorem Ok.lt {v : α} {k : α → Option β} {P : β → Prop} (h : Ok (k v) P) : Ok (lt v k) P := h
theorem Ok.imp {m : Option α} {P Q : α → Prop} (h : Ok m P) (i : ∀ v, P v → Q v) : Ok m Q := by
  obtain ⟨v, e, p⟩ := h; exact ⟨v, e, i v p⟩
theorem ok_forS {S : Type} (I : Nat → S → Prop) {f : α → S → Option S} : ∀ (xs : List α) (n : Nat) (s : S), I n s → (∀ i x s, x ∈ xs → n ≤ i → i < n + xs.length → I i s → Ok (f x s) (I (i + 1))) → Ok (forS xs s f) (I (n + xs.length))
  | [], n, s, h, _ => ⟨s, rfl, h⟩
  | x :: xs, n, s, h, hf => by
    show Ok (f x s >>= fun s' => forS xs s' f) _
    refine (hf n x s (List.mem_cons_self ..) (Nat.le_refl _) (by simp) h).bind fun s' h' => ?_
    have := ok_forS I xs (n + 1) s' h' fun i y t hy h1 h2 => hf i y t (List.mem_cons_of_mem _ hy) (by omega) (by simp only [List.length_cons]; omega)
    rw [List.length_cons, show n + (xs.length + 1) = n + 1 + xs.length by omega]
    exact this
theorem ok_mapR {f : α → Option β} {P : β → Prop} : ∀ (xs : List α), (∀ x ∈ xs, Ok (f x) P) → Ok (mapR f xs) (fun ys => ys.length = xs.length ∧ ∀ y ∈ ys, P y)
  | [], _ => ⟨[], rfl, rfl, fun _ h => nomatch h⟩
  | x :: xs, h => by
    show Ok (f x >>= fun y => mapR f xs >>= fun ys => some (y :: ys)) _
    refine (h x (List.mem_cons_self ..)).bind fun y py => (ok_mapR xs fun z hz => h z (List.mem_cons_of_mem _ hz)).bind fun ys ⟨l, q⟩ => Ok.ret ⟨by simp [l], ?_⟩
    intro z hz
    rcases List.mem_cons.mp hz with rfl | hz
    · exact py
    · exact q z hz
theorem ok_mapS {S : Type} (I : Nat → S → Prop) {P : β → Prop} {f : α → S → Option (β × S)} : ∀ (xs : List α) (n : Nat) (s : S), I n s → (∀ i x s, x ∈ xs → n ≤ i → i < n + xs.length → I i s → Ok (f x s) (fun r => P r.1 ∧ I (i + 1) r.2)) →
    Ok (mapS f xs s) (fun r => r.1.length = xs.length ∧ (∀ y ∈ r.1, P y) ∧ I (n + xs.length) r.2)
  | [], n, s, h, _ => ⟨([], s), rfl, rfl, (fun _ h => nomatch h), h⟩
  | x :: xs, n, s, h, hf => by
    show Ok (f x s >>= fun y => mapS f xs y.2 >>= fun ys => some (y.1 :: ys.1, ys.2)) _
    refine (hf n x s (List.mem_cons_self ..) (Nat.le_refl _) (by simp) h).bind fun y ⟨py, h'⟩ => ?_
    refine (ok_mapS I xs (n + 1) y.2 h' fun i z t hz h1 h2 => hf i z t (List.mem_cons_of_mem _ hz) (by omega) (by simp only [List.length_cons]; omega)).bind fun ys ⟨l, q, r⟩ => Ok.ret ⟨by simp [l], ?_, ?_⟩
    · intro z hz
      rcases List.mem_cons.mp hz with rfl | hz
      · exact py
      · exact q z hz
    · rw [List.length_cons, show n + (xs.length + 1) = n + 1 + xs.length by omega]
      exact r
end
/-! ### numbers -/
theorem log2_small {x : Int} {k : Nat} (h : x.natAbs < 2 ^ (k + 1)) : x.natAbs.log2 ≤ k := by
  by_cases h0 : x.natAbs = 0
  · rw [h0]; simp
  · have := (Nat.log2_lt h0 (k := k + 1)).mpr h
    omega
theorem mulR_b {x y : Int} (hx : x.natAbs.log2 < 400000) (hy : y.natAbs.log2 < 400000) : mulR x y = some (x * y) := if_pos (by omega)
theorem mulR_s {x y : Int} (hx : x.natAbs < 2 ^ 250) (hy : y.natAbs < 2 ^ 250) : mulR x y = some (x * y) := mulR_b (by have := log2_small (k := 249) hx; omega) (by have := log2_small (k := 249) hy; omega)
theorem fdivR_s {x y : Int} (h0 : y ≠ 0) (hy : y.natAbs < 2 ^ 250) : fdivR x y = some (x.fdiv y) := if_pos ⟨h0, by have := log2_small (k := 249) hy; omega⟩
theorem fmodR_s {x y : Int} (h0 : y ≠ 0) : fmodR x y = some (x.fmod y) := if_pos h0
theorem ok_mul {x y : Int} {P : Int → Prop} (hx : x.natAbs < 2 ^ 250) (hy : y.natAbs < 2 ^ 250) (p : P (x * y)) : Ok (mulR x y) P := ⟨_, mulR_s hx hy, p⟩
theorem ok_div {x y : Int} {P : Int → Prop} (h0 : y ≠ 0) (hy : y.natAbs < 2 ^ 250) (p : P (x.fdiv y)) : Ok (fdivR x y) P := ⟨_, fdivR_s h0 hy, p⟩
theorem ok_mod {x y : Int} {P : Int → Prop} (h0 : 0 < y) (p : ∀ m, 0 ≤ m → m < y → m = x.fmod y → P m) : Ok (fmodR x y) P :=
  ⟨_, fmodR_s (by omega), p _ (Int.fmod_nonneg_of_pos x h0) (Int.fmod_lt_of_pos x h0) rfl⟩
theorem ok_atI {xs : List α} {i : Int} {P : α → Prop} (h0 : 0 ≤ i) (h1 : i < xs.length) (p : ∀ x, xs[i.toNat]? = some x → P x) : Ok (atI xs i) P := by
  obtain ⟨k, rfl⟩ := Int.eq_ofNat_of_zero_le h0
  have hk : k < xs.length := by omega
  refine ⟨xs[k], ?_, p _ (by simp [hk])⟩
  unfold atI ixN
  rw [if_pos h0, if_pos h1]
  simp [hk]
/-! ### draws -/
def Good (n : Nat) (t : Tape) : Prop := 0 ≤ t.place ∧ t.place ≤ n ∧ 0 ≤ t.rest ∧ 0 ≤ t.mixed ∧ t.mixed < 2147483647
theorem Good.mono {n m : Nat} {t : Tape} (g : Good n t) (h : n ≤ m) : Good m t := ⟨g.1, by have := g.2.1; omega, g.2.2⟩
theorem ok_draw {n : Nat} {t : Tape} {many : Int} (g : Good n t) (hn : n < 1000000000) (hm : many < 2 ^ 200) : Ok (m_law_draw t many) fun x => 0 ≤ x.1 ∧ x.1 < max many 1 ∧ Good (n + 1) x.2 := by
  obtain ⟨g1, g2, g3, g4, g5⟩ := g
  unfold m_law_draw
  have mx1 : maxI many 1 = max many 1 := by unfold maxI; split <;> omega
  have mx2 : maxI many 2 = max many 2 := by unfold maxI; split <;> omega
  rw [mx1, mx2]
  have p18 : powR 10 18 = some 1000000000000000000 := by decide
  refine Ok.bind (P := fun o => match o with
    | .nx t => 0 ≤ t.place ∧ t.place ≤ n + 1 ∧ 0 ≤ t.rest ∧ 0 ≤ t.mixed ∧ t.mixed < 2147483647
    | .rt x => 0 ≤ x.1 ∧ x.1 < max many 1 ∧ Good (n + 1) x.2
    | .bk _ => False
    | .ct _ => False) (Ok.cond (fun _ => ?_) (fun _ => ?_)) ?_
  · refine Ok.lt (Ok.bind (P := fun x => 0 ≤ x.1 ∧ x.2.place = t.place ∧ 0 ≤ x.2.rest ∧ 0 ≤ x.2.mixed ∧ x.2.mixed < 2147483647) (Ok.cond (fun h => ?_) (fun _ => ?_)) ?_)
    · have h := of_decide_eq_true h
      refine Ok.bind (ok_atI (P := fun _ => True) g1 h fun _ _ => trivial) fun v _ => Ok.lt (Ok.ret ⟨?_, rfl, g3, g4, g5⟩)
      unfold absI; split <;> omega
    · refine Ok.bind (ok_mul (P := fun _ => True) (x := t.mixed) (by omega) (by decide) trivial) fun v _ => ?_
      refine Ok.bind (ok_mod (P := fun m => 0 ≤ m ∧ m < 2147483647) (by decide) fun m h1 h2 _ => ⟨h1, h2⟩) fun m hm' => Ok.lt (Ok.ret ⟨hm'.1, rfl, g3, hm'.1, hm'.2⟩)
    · rintro ⟨x, t'⟩ ⟨h1, h2, h3, h4, h5⟩
      rw [p18]
      show Ok (cond (decide (x < 1000000000000000000)) _ _) _
      refine Ok.cond (fun h => ?_) (fun _ => ?_)
      · have h := of_decide_eq_true h
        refine Ok.bind (ok_mul (P := fun _ => True) (by omega) (by decide) trivial) fun v _ => ?_
        refine Ok.bind (ok_mul (P := fun _ => True) (x := t.place) (by omega) (by decide) trivial) fun v _ => ?_
        refine Ok.bind (ok_mod (P := fun m => 0 ≤ m ∧ m < 2147483647) (by decide) fun m h1 h2 _ => ⟨h1, h2⟩) fun m hm' => ?_
        refine Ok.bind (ok_mul (P := fun _ => True) (by omega) (by decide) trivial) fun v _ => ?_
        refine Ok.bind (ok_mod (P := fun _ => True) (by decide) fun m h1 h2 _ => trivial) fun m _ => ?_
        refine Ok.bind (ok_mod (P := fun m => 0 ≤ m ∧ m < max many 1) (by omega) fun m h1 h2 _ => ⟨h1, h2⟩) fun m hm' => Ok.ret ⟨hm'.1, hm'.2, ?_, ?_, h3, h4, h5⟩
        · show 0 ≤ t.place + 1; omega
        · show t.place + 1 ≤ ((n + 1 : Nat) : Int); omega
      · refine Ok.ret ⟨?_, ?_, h1, h4, h5⟩
        · show 0 ≤ t.place + 1; omega
        · show t.place + 1 ≤ (n : Int) + 1; omega
  · exact Ok.ret ⟨g1, by omega, g3, g4, g5⟩
  · intro o
    cases o with
    | nx s =>
      rintro ⟨h1, h2, h3, h4, h5⟩
      refine Ok.lt (Ok.bind (ok_div (P := fun q => 0 ≤ q) (by omega) (by omega) (Int.fdiv_nonneg h3 (by omega))) fun q hq => ?_)
      refine Ok.bind (ok_mod (P := fun m => 0 ≤ m ∧ m < max many 1) (by omega) fun m h1 h2 _ => ⟨h1, h2⟩) fun m hm' => Ok.ret ⟨hm'.1, hm'.2, h1, ?_, hq, h4, h5⟩
      show s.place ≤ ((n + 1 : Nat) : Int); omega
    | rt x => intro h; exact Ok.ret h
    | bk s => intro h; exact h.elim
    | ct s => intro h; exact h.elim
theorem ok_pick {α : Type} {n : Nat} {t : Tape} {menu : List α} (g : Good n t) (hn : n < 1000000000) (h0 : 0 < menu.length) (h1 : menu.length < 2 ^ 100) : Ok (m_law_pick t menu) fun x => x.1 ∈ menu ∧ Good (n + 1) x.2 := by
  unfold m_law_pick
  refine (ok_draw g hn (by omega)).bind fun v ⟨a, b, c⟩ => ?_
  refine (ok_atI (P := fun x => x ∈ menu) a (by omega) fun x h => List.mem_of_getElem? h).bind fun x hx => Ok.ret ⟨hx, c⟩
theorem ok_tape (ns : List Int) : Ok (m_law_tape ns) (Good 0) := by
  unfold m_law_tape
  refine (ok_forS (fun _ s => 0 ≤ s ∧ s < 2147483647) ns 0 7 (by decide) fun i x s _ _ _ hs => ?_).bind fun s hs => Ok.ret ⟨Int.le_refl 0, Int.le_refl 0, Int.le_refl 0, hs.1, hs.2⟩
  refine Ok.bind (ok_mul (P := fun _ => True) (by omega) (by decide) trivial) fun v _ => ?_
  exact Ok.bind (ok_mod (P := fun m => 0 ≤ m ∧ m < 2147483647) (by decide) fun m h1 h2 _ => ⟨h1, h2⟩) fun m hm' => Ok.ret hm'
theorem ok_rng1 {k : Int} {P : List Int → Prop} (h : CRng k) (p : P (rangeI 0 k)) : Ok (rng1 k) P := ⟨_, if_pos h, p⟩
theorem mem_rangeI {lo hi x : Int} (h : x ∈ rangeI lo hi) : lo ≤ x ∧ x < hi := by
  unfold rangeI at h
  simp only [List.mem_map, List.mem_range] at h
  obtain ⟨j, hj, rfl⟩ := h
  omega
theorem len_rangeI {lo hi : Int} : (rangeI lo hi).length = (hi - lo).toNat := by simp [rangeI]
theorem ok_popAt {α : Type} {ys : List α} {i : Int} {P : α × List α → Prop} (h : ys.length ≤ 16777216) (h0 : 0 ≤ i) (h1 : i < ys.length) (p : ∀ x, x ∈ ys → P (x, ys.eraseIdx i.toNat)) : Ok (popAtR ys i) P := by
  unfold popAtR popR ixN
  rw [if_pos h, if_pos h0, if_pos h1]
  have hk : i.toNat < ys.length := by omega
  refine ⟨(ys[i.toNat], ys.eraseIdx i.toNat), ?_, p _ (List.getElem_mem hk)⟩
  simp [hk]
theorem ok_push {α : Type} {ys : List α} {x : α} {P : Unit × List α → Prop} (h : ys.length < 16000000) (p : P ((), ys ++ [x])) : Ok (pushR ys x) P := ⟨_, if_pos h, p⟩
theorem ok_cat {α : Type} {x y : List α} {P : List α → Prop} (h : x.length + y.length ≤ 16000000) (p : P (x ++ y)) : Ok (catR x y) P := ⟨_, if_pos h, p⟩
theorem mem_cutR {α : Type} {xs : List α} {lo hi : Option Int} {x : α} (h : x ∈ cutR xs lo hi) : x ∈ xs := List.mem_of_mem_drop (List.mem_of_mem_take h)
theorem ok_turns {n : Nat} {t : Tape} {many : Int} (g : Good n t) (hn : n < 900000000) (h0 : 0 ≤ many) (h1 : many ≤ 1000000) : Ok (m_law_turns t many) fun x => (∀ k ∈ x.1, 0 ≤ k ∧ k < many) ∧ Good (n + many.toNat + 1) x.2 := by
  unfold m_law_turns
  have hc : CRng many := by unfold CRng; omega
  refine (ok_rng1 (P := fun r => r = rangeI 0 many) hc rfl).bind fun v1 e1 => (ok_rng1 (P := fun r => r = rangeI 0 many) hc rfl).bind fun v2 e2 => ?_
  subst e1 e2
  refine (ok_forS (fun i (s : List Int × List Int × Tape) => s.1.length + i = many.toNat ∧ (∀ k ∈ s.1, 0 ≤ k ∧ k < many) ∧ (∀ k ∈ s.2.1, 0 ≤ k ∧ k < many) ∧ s.2.1.length = i ∧ Good (n + i) s.2.2) (rangeI 0 many) 0 (rangeI 0 many, [], t) ⟨by show (rangeI 0 many).length + 0 = _; rw [len_rangeI]; simp, fun k hk => by have := mem_rangeI hk; exact this, (fun k hk => nomatch hk), rfl, g⟩ ?_).bind ?_
  · rintro i x ⟨rest, turns, t'⟩ _ _ hi ⟨a, b, c, d, e⟩
    rw [len_rangeI] at hi
    have a' : rest.length + i = many.toNat := a
    have hl : 0 < rest.length := by omega
    refine (ok_draw e (by omega) (by show (rest.length : Int) < _; omega)).bind fun v ⟨p1, p2, p3⟩ => ?_
    have p2 : v.1 < max (rest.length : Int) 1 := p2
    refine (ok_popAt (P := fun y => (0 ≤ y.1 ∧ y.1 < many) ∧ y.2.length + 1 = rest.length ∧ ∀ k ∈ y.2, 0 ≤ k ∧ k < many) (by show rest.length ≤ _; omega) p1 (by show v.1 < (rest.length : Int); omega) fun y hy => ⟨b y hy, ?_, fun k hk => b k (List.mem_of_mem_eraseIdx hk)⟩).bind fun y ⟨q1, q2, q3⟩ => ?_
    · show (rest.eraseIdx v.1.toNat).length + 1 = rest.length
      rw [List.length_eraseIdx]
      split <;> omega
    · have d' : turns.length = i := d
      refine (ok_push (P := fun z => z.2 = turns ++ [y.1]) (by show turns.length < _; omega) rfl).bind fun z hz => Ok.ret ⟨?_, q3, ?_, ?_, p3⟩
      · show y.2.length + (i + 1) = many.toNat; omega
      · intro k hk
        have hk : k ∈ z.2 := hk
        rw [hz] at hk
        rcases List.mem_append.mp hk with h | h
        · exact c k h
        · rw [List.mem_singleton.mp h]; exact q1
      · show z.2.length = i + 1
        rw [hz]; simp [d']
  · rintro ⟨rest, turns, t'⟩ ⟨a, b, c, d, e⟩
    rw [len_rangeI, show (many - 0).toNat = many.toNat by simp] at e
    have e : Good (n + many.toNat) t' := by simpa using e
    refine (ok_draw e (by omega) (by decide)).bind fun v ⟨p1, p2, p3⟩ => ?_
    refine (ok_atI (P := fun _ => True) p1 (by show v.1 < 3; have p2 : v.1 < max 3 1 := p2; omega) fun _ _ => trivial).bind fun w _ => Ok.ret ⟨fun k hk => c k (mem_cutR hk), p3⟩
/-! ### lowest terms -/
/-- the sign of the second, the divisor of both -/
def sgR (n d : Int) : Int := if d < 0 then -(gcdI n d) else gcdI n d
def lowR (n d : Int) : Option (Int × Int) := fdivR n (sgR n d) >>= fun a => fdivR d (sgR n d) >>= fun b => some (a, b)
theorem whl_gcd (ρ : Type) : ∀ (fuel a b : Nat), b < fuel → (whl fuel ((a : Int), (b : Int)) (fun (s3 : (Int × Int)) => cond (decide ((0 : Int) < s3.2)) (fmodR s3.1 s3.2 >>= fun v4 => some (.nx (s3.2, v4))) (some (.bk s3))) : Option (Fl (Int × Int) ρ)) = some (.nx ((Nat.gcd a b : Int), 0))
  | 0, _, _, h => by omega
  | fuel + 1, a, b, h => by
    unfold whl
    by_cases hb : b = 0
    · subst hb
      show (some (Fl.nx ((a : Int), ((0 : Nat) : Int))) : Option (Fl (Int × Int) ρ)) = _
      simp
    · have hd : decide ((0 : Int) < ((a : Int), (b : Int)).2) = true := decide_eq_true (by show (0 : Int) < b; omega)
      dsimp only
      rw [hd]
      show ((fmodR (a : Int) (b : Int) >>= fun v4 => some (Fl.nx ((b : Int), v4))) >>= _) = _
      rw [fmodR_s (by omega)]
      show whl fuel ((b : Int), (a : Int).fmod b) _ = _
      rw [show (a : Int).fmod b = ((a % b : Nat) : Int) by rw [Int.fmod_eq_emod_of_nonneg _ (by omega)]; rfl]
      rw [whl_gcd ρ fuel b (a % b) (by have := Nat.mod_lt a (Nat.pos_of_ne_zero hb); omega)]
      rw [show Nat.gcd a b = Nat.gcd b (a % b) by rw [Nat.gcd_comm a b, Nat.gcd_rec b a, Nat.gcd_comm]]
theorem absI_nat (x : Int) : absI x = (x.natAbs : Int) := by unfold absI; split <;> omega
theorem low_eq (n d : Int) : m_law_low n d = lowR n d := by
  unfold m_law_low lt
  dsimp only
  rw [absI_nat, absI_nat, show ((d.natAbs : Int)).toNat = d.natAbs by simp]
  rw [whl_gcd (Int × Int) (d.natAbs + 1) n.natAbs d.natAbs (by omega)]
  show ((cond (decide (d < 0)) (some (0 - (Nat.gcd n.natAbs d.natAbs : Int))) (some (Nat.gcd n.natAbs d.natAbs : Int))) >>= fun s5 => fdivR n s5 >>= fun v7 => fdivR d s5 >>= fun v8 => some (v7, v8)) = _
  unfold lowR sgR gcdI
  by_cases h : d < 0
  · rw [if_pos h, show decide (d < 0) = true from decide_eq_true h, Int.zero_sub]; rfl
  · rw [if_neg h, show decide (d < 0) = false from decide_eq_false h]; rfl
theorem gcdI_pos {n d : Int} (h : d ≠ 0) : 0 < gcdI n d := by
  unfold gcdI
  have : 0 < Nat.gcd n.natAbs d.natAbs := Nat.gcd_pos_of_pos_right _ (by omega)
  omega
theorem gcdI_dvd (n d : Int) : gcdI n d ∣ n ∧ gcdI n d ∣ d := by
  unfold gcdI
  exact ⟨Int.ofNat_dvd_left.mpr (Nat.gcd_dvd_left ..), Int.ofNat_dvd_left.mpr (Nat.gcd_dvd_right ..)⟩
theorem gcdI_le {n d : Int} (h : d ≠ 0) : gcdI n d ≤ d.natAbs := by
  unfold gcdI
  have := Nat.gcd_le_right (n := d.natAbs) n.natAbs (by omega)
  omega
/-- the value in lowest terms -/
def lowV (n d : Int) : Int × Int := (n.fdiv (sgR n d), d.fdiv (sgR n d))
theorem lowR_eq {n d : Int} (h : d ≠ 0) (hd : d.natAbs < 2 ^ 250) : lowR n d = some (lowV n d) := by
  have g := gcdI_pos (n := n) h
  have l := gcdI_le (n := n) h
  have s0 : sgR n d ≠ 0 := by unfold sgR; split <;> omega
  have s1 : (sgR n d).natAbs < 2 ^ 250 := by unfold sgR; split <;> omega
  unfold lowR
  rw [fdivR_s s0 s1, fdivR_s s0 s1]; rfl
theorem lowV_mul {n d : Int} (h : d ≠ 0) : (lowV n d).1 * sgR n d = n ∧ (lowV n d).2 * sgR n d = d := by
  obtain ⟨h1, h2⟩ := gcdI_dvd n d
  have d1 : sgR n d ∣ n := by unfold sgR; split; exact Int.neg_dvd.mpr h1; exact h1
  have d2 : sgR n d ∣ d := by unfold sgR; split; exact Int.neg_dvd.mpr h2; exact h2
  exact ⟨Int.fdiv_mul_cancel d1, Int.fdiv_mul_cancel d2⟩
theorem lowV_pos {n d : Int} (h : d ≠ 0) : 0 < (lowV n d).2 := by
  have g := gcdI_pos (n := n) h
  have m := (lowV_mul (n := n) h).2
  unfold sgR at m
  by_cases hd : d < 0
  · rw [if_pos hd] at m
    refine Int.not_le.mp fun q => ?_
    have : 0 ≤ (lowV n d).2 * -gcdI n d := Int.mul_nonneg_of_nonpos_of_nonpos q (by omega)
    omega
  · rw [if_neg hd] at m
    refine Int.not_le.mp fun q => ?_
    have : (lowV n d).2 * gcdI n d ≤ 0 := Int.mul_nonpos_of_nonpos_of_nonneg q (by omega)
    omega
theorem lowV_le {n d : Int} (h : d ≠ 0) : (lowV n d).1.natAbs ≤ n.natAbs ∧ (lowV n d).2.natAbs ≤ d.natAbs := by
  have g := gcdI_pos (n := n) h
  obtain ⟨m1, m2⟩ := lowV_mul (n := n) h
  have s1 : 1 ≤ (sgR n d).natAbs := by unfold sgR; split <;> omega
  constructor
  · calc (lowV n d).1.natAbs ≤ (lowV n d).1.natAbs * (sgR n d).natAbs := Nat.le_mul_of_pos_right _ s1
      _ = n.natAbs := by rw [← Int.natAbs_mul, m1]
  · calc (lowV n d).2.natAbs ≤ (lowV n d).2.natAbs * (sgR n d).natAbs := Nat.le_mul_of_pos_right _ s1
      _ = d.natAbs := by rw [← Int.natAbs_mul, m2]
theorem ok_low {n d : Int} {P : Int × Int → Prop} (h : d ≠ 0) (hd : d.natAbs < 2 ^ 250) (p : P (lowV n d)) : Ok (m_law_low n d) P := ⟨_, by rw [low_eq, lowR_eq h hd], p⟩
theorem ok_forF {α S ρ : Type} (I : S → Prop) {f : α → S → Option (Fl S ρ)} : ∀ (xs : List α) (s : S), I s → (∀ x s, x ∈ xs → I s → Ok (f x s) (fun o => ∃ s', o = .nx s' ∧ I s')) → Ok (forF xs s f) (fun o => ∃ s', o = .nx s' ∧ I s')
  | [], s, h, _ => ⟨_, rfl, s, rfl, h⟩
  | x :: xs, s, h, hf => by
    obtain ⟨o, e, s', rfl, h'⟩ := hf x s (List.mem_cons_self ..) h
    rw [forF, e]
    exact ok_forF I xs s' h' fun y t hy ht => hf y t (List.mem_cons_of_mem _ hy) ht
/-! ### the same, told twice -/
def Plain : Nat → U → Prop
  | 0, _ => False
  | n + 1, .tup l => l.length ≤ 8000000 ∧ ∀ x ∈ l, Plain n x
  | _ + 1, .lst _ => False
  | _ + 1, .opq => False
  | _ + 1, .non => True
  | _ + 1, .bl _ => True
  | _ + 1, .int _ => True
  | _ + 1, .str _ => True
theorem same_ok : ∀ (n : Nat) (u : U), Plain n u → m_law_same n u u = some true
  | 0, _, h => h.elim
  | n + 1, .non, _ => rfl
  | n + 1, .bl b, _ => by cases b <;> rfl
  | n + 1, .int i, _ => by
    show some (decide (i = i)) = some true
    simp
  | n + 1, .str i, _ => by
    show some (decide (i = i)) = some true
    simp
  | n + 1, .lst _, h => h.elim
  | n + 1, .opq, h => h.elim
  | n + 1, .tup l, h => by
    obtain ⟨h1, h2⟩ := h
    show ((cond (!true) (some true) (some (!decide ((l.length : Int) = (l.length : Int))))) >>= fun c5 => cond c5 (some false) (rng1 (l.length : Int) >>= fun v7 => (forF v7 () (fun x9 (s8 : Unit) => U.get (.tup l) x9 >>= fun v10 => U.get (.tup l) x9 >>= fun v11 => m_law_same n v10 v11 >>= fun v12 =>
      cond (!v12) (some (.rt false)) (some (.nx ()))) : Option (Fl Unit Bool)) >>= (fun o => match o with
        | .nx s8 => some true
        | .rt x => some x
        | .bk _ => none
        | .ct _ => none))) = _
    rw [show (!decide ((l.length : Int) = (l.length : Int))) = false by simp]
    show (rng1 (l.length : Int) >>= _) = _
    rw [show rng1 (l.length : Int) = some (rangeI 0 l.length) from if_pos (by unfold CRng; omega)]
    obtain ⟨o, e, s', rfl, _⟩ := ok_forF (ρ := Bool) (fun (_ : Unit) => True) (f := fun x9 (s8 : Unit) => U.get (.tup l) x9 >>= fun v10 => U.get (.tup l) x9 >>= fun v11 => m_law_same n v10 v11 >>= fun v12 =>
      cond (!v12) (some (.rt false)) (some (.nx ()))) (rangeI 0 l.length) () trivial fun x s hx _ => by
        obtain ⟨a, b⟩ := mem_rangeI hx
        obtain ⟨v, ev, hv⟩ := ok_atI (xs := l) (P := fun y => y ∈ l) a b fun y hy => List.mem_of_getElem? hy
        have eg : U.get (.tup l) x = some v := ev
        rw [eg]
        show Ok (m_law_same n v v >>= _) _
        rw [same_ok n v (h2 v hv)]
        exact ⟨_, rfl, (), rfl, trivial⟩
    show (forF (rangeI 0 l.length) () _ >>= _) = _
    rw [e]; rfl
theorem ok_forI {α S : Type} (I : Nat → S → Prop) {f : α → S → Option S} : ∀ (xs : List α) (n : Nat) (s : S), I n s → (∀ j x s, xs[j]? = some x → I (n + j) s → Ok (f x s) (I (n + j + 1))) → Ok (forS xs s f) (I (n + xs.length))
  | [], n, s, h, _ => ⟨s, rfl, h⟩
  | x :: xs, n, s, h, hf => by
    show Ok (f x s >>= fun s' => forS xs s' f) _
    refine (hf 0 x s rfl h).bind fun s' h' => ?_
    have := ok_forI I xs (n + 1) s' h' fun j y t hy ht => by
      have := hf (j + 1) y t (by simpa using hy) (by rw [show n + (j + 1) = n + 1 + j by omega]; exact ht)
      rw [show n + (j + 1) + 1 = n + 1 + j + 1 by omega] at this
      exact this
    rw [List.length_cons, show n + (xs.length + 1) = n + 1 + xs.length by omega]
    exact this
theorem dSeqs_ok {α : Type} {d : U → Option α} {u : α → U} (h : ∀ x, d (u x) = some x) : ∀ xs : List α, dSeq d (uSeq u xs) = some xs := by
  intro xs
  show mapR d (xs.map u) = some xs
  induction xs with
  | nil => rfl
  | cons x xs ih =>
    show (d (u x) >>= fun y => mapR d (xs.map u) >>= fun ys => some (y :: ys)) = _
    rw [h x, ih]; rfl
theorem mapR_map {α β γ : Type} (f : β → Option γ) (u : α → β) : ∀ xs : List α, mapR f (xs.map u) = mapR (fun x => f (u x)) xs
  | [] => rfl
  | x :: xs => by
    show (f (u x) >>= fun y => mapR f (xs.map u) >>= fun ys => some (y :: ys)) = _
    rw [mapR_map f u xs]; rfl
theorem mapR_congr {α β : Type} {f g : α → Option β} : ∀ {xs : List α}, (∀ x ∈ xs, f x = g x) → mapR f xs = mapR g xs
  | [], _ => rfl
  | x :: xs, h => by
    show (f x >>= fun y => mapR f xs >>= fun ys => some (y :: ys)) = (g x >>= fun y => mapR g xs >>= fun ys => some (y :: ys))
    rw [h x (List.mem_cons_self ..), mapR_congr fun y hy => h y (List.mem_cons_of_mem _ hy)]
theorem dSeqU {l : List U} : dSeq some (.tup l) = some l := by
  show mapR some l = some l
  induction l with
  | nil => rfl
  | cons x xs ih =>
    show (some x >>= fun y => mapR some xs >>= fun ys => some (y :: ys)) = _
    rw [ih]; rfl
end Ty

set_option maxHeartbeats 4000000
/-! fractions in lowest terms, boxes: plain Lean -/
namespace Ty
open PySem L2
def m_lowest (a_n : Int) (a_d : Int) : Option (Int × Int) :=
 lt (gcdI a_n a_d) fun divisor_1 =>
 (cond (decide (a_d < (0 : Int))) (some (-divisor_1)) (some divisor_1)) >>= fun s2 =>
 fdivR a_n s2 >>= fun v3 =>
 fdivR a_d s2 >>= fun v4 =>
 some (v3, v4)
def m_plus (a_p : (Int × Int)) (a_q : (Int × Int)) : Option (Int × Int) :=
 mulR a_p.1 a_q.2 >>= fun v1 =>
 mulR a_q.1 a_p.2 >>= fun v2 =>
 mulR a_p.2 a_q.2 >>= fun v3 =>
 m_lowest (v1 + v2) v3 >>= fun v4 =>
 some v4
def m_minus (a_p : (Int × Int)) (a_q : (Int × Int)) : Option (Int × Int) :=
 mulR a_p.1 a_q.2 >>= fun v1 =>
 mulR a_q.1 a_p.2 >>= fun v2 =>
 mulR a_p.2 a_q.2 >>= fun v3 =>
 m_lowest (v1 - v2) v3 >>= fun v4 =>
 some v4
def m_is_less (a_p : (Int × Int)) (a_q : (Int × Int)) : Option Bool :=
 mulR a_p.1 a_q.2 >>= fun v1 =>
 mulR a_q.1 a_p.2 >>= fun v2 =>
 some (decide (v1 < v2))
def m_is_wide_box (a_box : ((Int × Int) × (Int × Int) × (Int × Int) × (Int × Int))) : Option Bool :=
 m_is_less a_box.1 a_box.2.2.1 >>= fun v1 =>
 (cond v1 (m_is_less a_box.2.1 a_box.2.2.2 >>= fun v2 =>
 some v2) (some false)) >>= fun c3 =>
 some c3
def m_boxes_lap (a_box : ((Int × Int) × (Int × Int) × (Int × Int) × (Int × Int))) (a_other : ((Int × Int) × (Int × Int) × (Int × Int) × (Int × Int))) : Option Bool :=
 m_is_wide_box a_box >>= fun v1 =>
 (cond (!v1) (m_is_wide_box a_other >>= fun v2 =>
 some (!v2)) (some false)) >>= fun c3 =>
 cond c3 (some false) (m_is_less a_box.1 a_other.2.2.1 >>= fun v4 =>
 (cond v4 (m_is_less a_other.1 a_box.2.2.1 >>= fun v5 =>
 some v5) (some false)) >>= fun c6 =>
 (cond c6 (m_is_less a_box.2.1 a_other.2.2.2 >>= fun v7 =>
 (cond v7 (m_is_less a_other.2.1 a_box.2.2.2 >>= fun v8 =>
 some v8) (some false)) >>= fun c9 =>
 some c9) (some false)) >>= fun c10 =>
 some c10)
def m_law_point (a_boxes : (List (Int × Int × Int × Int))) (a_x : Int) (a_y : Int) : Option Bool :=
 (forF a_boxes () (fun x2 (s1 : Unit) => cond ((decide (x2.1 ≤ a_x)) && ((decide (a_x ≤ x2.2.2.1)) && ((decide (x2.2.1 ≤ a_y)) && (decide (a_y ≤ x2.2.2.2))))) (some (.rt true)) (some (.nx ()))) : Option (Fl Unit Bool)) >>= (fun o => match o with
 | .nx s1 => some false
 | .rt x => some x
 | .bk _ => none
 | .ct _ => none)
def m_law_covered (a_boxes : (List (Int × Int × Int × Int))) (a_x : Int) (a_y : Int) : Option Bool :=
 (forF a_boxes () (fun x2 (s1 : Unit) => mulR (2 : Int) x2.1 >>= fun v3 =>
 (cond (decide (v3 < a_x)) (mulR (2 : Int) x2.2.2.1 >>= fun v4 =>
 (cond (decide (a_x < v4)) (mulR (2 : Int) x2.2.1 >>= fun v5 =>
 (cond (decide (v5 < a_y)) (mulR (2 : Int) x2.2.2.2 >>= fun v6 =>
 some (decide (a_y < v6))) (some false)) >>= fun c7 =>
 some c7) (some false)) >>= fun c8 =>
 some c8) (some false)) >>= fun c9 =>
 cond c9 (some (.rt true)) (some (.nx ()))) : Option (Fl Unit Bool)) >>= (fun o => match o with
 | .nx s1 => some false
 | .rt x => some x
 | .bk _ => none
 | .ct _ => none)
def m_law_inner (a_boxes : (List (Int × Int × Int × Int))) (a_x : Int) (a_y : Int) : Option Bool :=
 (forF ([((1 : Int), (1 : Int)), ((-(1 : Int)), (1 : Int)), ((1 : Int), (-(1 : Int))), ((-(1 : Int)), (-(1 : Int)))]) () (fun x2 (s1 : Unit) => mulR (2 : Int) a_x >>= fun v3 =>
 mulR (2 : Int) a_y >>= fun v4 =>
 m_law_covered a_boxes (v3 + x2.1) (v4 + x2.2) >>= fun v5 =>
 cond (!v5) (some (.rt false)) (some (.nx ()))) : Option (Fl Unit Bool)) >>= (fun o => match o with
 | .nx s1 => some true
 | .rt x => some x
 | .bk _ => none
 | .ct _ => none)
def m_law_cuts (a_boxes : (List (Int × Int × Int × Int))) (a_low : Int) : Option (List Int) :=
 mapR (fun x1 => atI ([x1.1, x1.2.1, x1.2.2.1, x1.2.2.2]) a_low >>= fun v2 =>
 some v2) a_boxes >>= fun ys3 =>
 mapR (fun x4 => atI ([x4.1, x4.2.1, x4.2.2.1, x4.2.2.2]) (a_low + (2 : Int)) >>= fun v5 =>
 some v5) a_boxes >>= fun ys6 =>
 catR ys3 ys6 >>= fun v7 =>
 setR' v7 >>= fun v8 =>
 rng1 ((v8.length : Int) - (1 : Int)) >>= fun v9 =>
 mapR (fun x10 => atI v8 x10 >>= fun v11 =>
 atI v8 (x10 + (1 : Int)) >>= fun v12 =>
 fdivR (v11 + v12) (2 : Int) >>= fun v13 =>
 some v13) v9 >>= fun ys14 =>
 catR v8 ys14 >>= fun v15 =>
 some v15
def m_law_few (a_boxes : (List (Int × Int × Int × Int))) : Option (List (Int × Int)) :=
 m_law_cuts a_boxes (1 : Int) >>= fun v1 =>
 m_law_cuts a_boxes (0 : Int) >>= fun v2 =>
 forS v2 ([] : (List (Int × Int))) (fun x4 (s3 : (List (Int × Int))) => forS v1 s3 (fun x6 (s5 : (List (Int × Int))) => pushR s5 (x4, x6) >>= fun v7 =>
 some v7.2) >>= fun s5 =>
 some s5) >>= fun s3 =>
 some s3
def m_law_lap (a_one : (List (Int × Int × Int × Int))) (a_two : (List (Int × Int × Int × Int))) : Option Bool :=
 cond ((decide ((a_one.length : Int) = (1 : Int))) && (decide ((a_two.length : Int) = (1 : Int)))) (atI a_one (0 : Int) >>= fun v1 =>
 atI a_two (0 : Int) >>= fun v2 =>
 cond (((decide (v1.1 = v1.2.2.1)) || (decide (v1.2.1 = v1.2.2.2))) && ((decide (v2.1 = v2.2.2.1)) || (decide (v2.2.1 = v2.2.2.2)))) (some false) (some ((decide (v1.1 < v2.2.2.1)) && ((decide (v2.1 < v1.2.2.1)) && ((decide (v1.2.1 < v2.2.2.2)) && (decide (v2.2.1 < v1.2.2.2))))))) (catR a_one a_two >>= fun v3 =>
 m_law_few v3 >>= fun v4 =>
 (forF v4 () (fun x6 (s5 : Unit) => m_law_point a_one x6.1 x6.2 >>= fun v7 =>
 (cond v7 (m_law_inner a_two x6.1 x6.2 >>= fun v8 =>
 some v8) (some false)) >>= fun c9 =>
 cond c9 (some (.rt true)) (m_law_point a_two x6.1 x6.2 >>= fun v10 =>
 (cond v10 (m_law_inner a_one x6.1 x6.2 >>= fun v11 =>
 some v11) (some false)) >>= fun c12 =>
 cond c12 (some (.rt true)) (some (.nx ())))) : Option (Fl Unit Bool)) >>= (fun o => match o with
 | .nx s5 => some false
 | .rt x => some x
 | .bk _ => none
 | .ct _ => none))
/-! ### lowest terms -/
theorem lowest_eq (n d : Int) : m_lowest n d = lowR n d := by
  unfold m_lowest lt lowR sgR
  by_cases h : d < 0
  · rw [if_pos h, show decide (d < 0) = true from decide_eq_true h]; rfl
  · rw [if_neg h, show decide (d < 0) = false from decide_eq_false h]; rfl
theorem lowest_low : m_lowest = m_law_low := by funext n d; rw [lowest_eq, low_eq]
theorem lowV_cop {n d : Int} (h : d ≠ 0) : Nat.Coprime (lowV n d).1.natAbs (lowV n d).2.natAbs := by
  obtain ⟨m1, m2⟩ := lowV_mul (n := n) h
  have g := gcdI_pos (n := n) h
  have s : (sgR n d).natAbs = Nat.gcd n.natAbs d.natAbs := by
    unfold sgR gcdI; split <;> omega
  have e1 : (lowV n d).1.natAbs * Nat.gcd n.natAbs d.natAbs = n.natAbs := by rw [← s, ← Int.natAbs_mul, m1]
  have e2 : (lowV n d).2.natAbs * Nat.gcd n.natAbs d.natAbs = d.natAbs := by rw [← s, ← Int.natAbs_mul, m2]
  have p : 0 < Nat.gcd n.natAbs d.natAbs := by unfold gcdI at g; omega
  have e3 := Nat.gcd_mul_right (lowV n d).1.natAbs (Nat.gcd n.natAbs d.natAbs) (lowV n d).2.natAbs
  rw [e1, e2] at e3
  exact Nat.eq_of_mul_eq_mul_right p (by rw [← e3]; omega)
theorem low_uniq {a b a' b' : Int} (hb : 0 < b) (hb' : 0 < b') (c : Nat.Coprime a.natAbs b.natAbs) (c' : Nat.Coprime a'.natAbs b'.natAbs) (e : a * b' = a' * b) : a = a' ∧ b = b' := by
  have e1 : a.natAbs * b'.natAbs = a'.natAbs * b.natAbs := by rw [← Int.natAbs_mul, ← Int.natAbs_mul, e]
  have d1 : b.natAbs ∣ b'.natAbs := c.symm.dvd_of_dvd_mul_left (e1 ▸ Nat.dvd_mul_left ..)
  have d2 : b'.natAbs ∣ b.natAbs := c'.symm.dvd_of_dvd_mul_left (e1 ▸ Nat.dvd_mul_left ..)
  have e2 := Nat.dvd_antisymm d1 d2
  have e3 : b = b' := by omega
  subst e3
  exact ⟨Int.eq_of_mul_eq_mul_right (by omega) e, rfl⟩
theorem lowV_eq {n d n' d' : Int} (h : d ≠ 0) (h' : d' ≠ 0) (e : n * d' = n' * d) : lowV n d = lowV n' d' := by
  obtain ⟨m1, m2⟩ := lowV_mul (n := n) h
  obtain ⟨m3, m4⟩ := lowV_mul (n := n') h'
  have s1 : sgR n d ≠ 0 := fun z => by rw [z, Int.mul_zero] at m2; exact h m2.symm
  have s2 : sgR n' d' ≠ 0 := fun z => by rw [z, Int.mul_zero] at m4; exact h' m4.symm
  have key : (lowV n d).1 * (lowV n' d').2 = (lowV n' d').1 * (lowV n d).2 := by
    refine Int.eq_of_mul_eq_mul_right (a := sgR n d * sgR n' d') (Int.mul_ne_zero s1 s2) ?_
    grind
  obtain ⟨u1, u2⟩ := low_uniq (lowV_pos h) (lowV_pos h') (lowV_cop h) (lowV_cop h') key
  exact Prod.ext u1 u2
/-- equal fractions have equal cross products -/
theorem lowV_cross {n d n' d' : Int} (h : d ≠ 0) (h' : d' ≠ 0) (e : lowV n d = lowV n' d') : n * d' = n' * d := by
  obtain ⟨m1, m2⟩ := lowV_mul (n := n) h
  obtain ⟨m3, m4⟩ := lowV_mul (n := n') h'
  rw [e] at m1 m2
  grind
abbrev B100 (x : Int) : Prop := x.natAbs < 2 ^ 100
theorem ok_lowest {n d : Int} {P : Int × Int → Prop} (h : d ≠ 0) (hd : d.natAbs < 2 ^ 250) (p : P (lowV n d)) : Ok (m_lowest n d) P := by rw [lowest_low]; exact ok_low h hd p
section
variable {u x y : Int}
theorem lowV_b (hu : 0 < u) (bx : B100 x) (bu : B100 u) : B100 (lowV x u).1 ∧ B100 (lowV x u).2 := by
  obtain ⟨a, b⟩ := lowV_le (n := x) (d := u) (by omega)
  exact ⟨Nat.lt_of_le_of_lt a bx, Nat.lt_of_le_of_lt b bu⟩
theorem b200 {a b : Int} (ha : B100 a) (hb : B100 b) : (a * b).natAbs < 2 ^ 200 := by
  rw [Int.natAbs_mul]
  exact Nat.lt_of_lt_of_le (Nat.mul_lt_mul'' ha hb) (by decide)
theorem b100_250 {a : Int} (h : B100 a) : a.natAbs < 2 ^ 250 := Nat.lt_trans h (by decide)
theorem plus_fr (hu : 0 < u) (bx : B100 x) (by' : B100 y) (bu : B100 u) : m_plus (lowV x u) (lowV y u) = some (lowV (x + y) u) := by
  obtain ⟨p1, p2⟩ := lowV_b hu bx bu
  obtain ⟨q1, q2⟩ := lowV_b hu by' bu
  have h : u ≠ 0 := by omega
  obtain ⟨m1, m2⟩ := lowV_mul (n := x) h
  obtain ⟨m3, m4⟩ := lowV_mul (n := y) h
  have a := lowV_pos (n := x) h
  have b := lowV_pos (n := y) h
  have ab := Int.mul_pos a b
  have s1 : sgR x u ≠ 0 := fun z => by rw [z, Int.mul_zero] at m2; exact h m2.symm
  have s2 : sgR y u ≠ 0 := fun z => by rw [z, Int.mul_zero] at m4; exact h m4.symm
  have pb := b200 p2 q2
  unfold m_plus
  rw [mulR_s (b100_250 p1) (b100_250 q2), mulR_s (b100_250 q1) (b100_250 p2), mulR_s (b100_250 p2) (b100_250 q2)]
  show m_lowest _ _ >>= _ = _
  rw [lowest_eq, lowR_eq (by omega) (Nat.lt_trans pb (by decide))]
  show some _ = some _
  congr 1
  refine lowV_eq (by omega) h ?_
  refine Int.eq_of_mul_eq_mul_right (a := sgR x u * sgR y u) (Int.mul_ne_zero s1 s2) ?_
  grind
theorem minus_fr (hu : 0 < u) (bx : B100 x) (by' : B100 y) (bu : B100 u) : m_minus (lowV x u) (lowV y u) = some (lowV (x - y) u) := by
  obtain ⟨p1, p2⟩ := lowV_b hu bx bu
  obtain ⟨q1, q2⟩ := lowV_b hu by' bu
  have h : u ≠ 0 := by omega
  obtain ⟨m1, m2⟩ := lowV_mul (n := x) h
  obtain ⟨m3, m4⟩ := lowV_mul (n := y) h
  have a := lowV_pos (n := x) h
  have b := lowV_pos (n := y) h
  have ab := Int.mul_pos a b
  have s1 : sgR x u ≠ 0 := fun z => by rw [z, Int.mul_zero] at m2; exact h m2.symm
  have s2 : sgR y u ≠ 0 := fun z => by rw [z, Int.mul_zero] at m4; exact h m4.symm
  have pb := b200 p2 q2
  unfold m_minus
  rw [mulR_s (b100_250 p1) (b100_250 q2), mulR_s (b100_250 q1) (b100_250 p2), mulR_s (b100_250 p2) (b100_250 q2)]
  show m_lowest _ _ >>= _ = _
  rw [lowest_eq, lowR_eq (by omega) (Nat.lt_trans pb (by decide))]
  show some _ = some _
  congr 1
  refine lowV_eq (by omega) h ?_
  refine Int.eq_of_mul_eq_mul_right (a := sgR x u * sgR y u) (Int.mul_ne_zero s1 s2) ?_
  grind
theorem less_fr (hu : 0 < u) (bx : B100 x) (by' : B100 y) (bu : B100 u) : m_is_less (lowV x u) (lowV y u) = some (decide (x < y)) := by
  obtain ⟨p1, p2⟩ := lowV_b hu bx bu
  obtain ⟨q1, q2⟩ := lowV_b hu by' bu
  have h : u ≠ 0 := by omega
  obtain ⟨m1, m2⟩ := lowV_mul (n := x) h
  obtain ⟨m3, m4⟩ := lowV_mul (n := y) h
  have a := lowV_pos (n := x) h
  have b := lowV_pos (n := y) h
  have s1 : 0 < sgR x u := by
    refine Int.not_le.mp fun z => ?_
    have := Int.mul_nonneg_of_nonpos_of_nonpos (Int.neg_nonpos_of_nonneg (Int.le_of_lt a)) z
    rw [Int.neg_mul, m2] at this
    omega
  have s2 : 0 < sgR y u := by
    refine Int.not_le.mp fun z => ?_
    have := Int.mul_nonneg_of_nonpos_of_nonpos (Int.neg_nonpos_of_nonneg (Int.le_of_lt b)) z
    rw [Int.neg_mul, m4] at this
    omega
  unfold m_is_less
  rw [mulR_s (b100_250 p1) (b100_250 q2), mulR_s (b100_250 q1) (b100_250 p2)]
  show some (decide _) = some (decide _)
  congr 1
  refine decide_eq_decide.mpr ?_
  have t : 0 < sgR x u * sgR y u := Int.mul_pos s1 s2
  have k1 : (lowV x u).1 * (lowV y u).2 * (sgR x u * sgR y u) = x * u := by grind
  have k2 : (lowV y u).1 * (lowV x u).2 * (sgR x u * sgR y u) = y * u := by grind
  constructor
  · intro q
    have := Int.mul_lt_mul_of_pos_right q t
    rw [k1, k2] at this
    exact Int.lt_of_mul_lt_mul_right this (by omega)
  · intro q
    refine Int.lt_of_mul_lt_mul_right (a := sgR x u * sgR y u) ?_ (by omega)
    rw [k1, k2]
    exact Int.mul_lt_mul_of_pos_right q hu
end
/-! ### boxes of numbers over one unit -/
abbrev IB := Int × Int × Int × Int
abbrev FBx := (Int × Int) × (Int × Int) × (Int × Int) × (Int × Int)
def frB (u : Int) (b : IB) : FBx := (lowV b.1 u, lowV b.2.1 u, lowV b.2.2.1 u, lowV b.2.2.2 u)
def BdB (b : IB) : Prop := B100 b.1 ∧ B100 b.2.1 ∧ B100 b.2.2.1 ∧ B100 b.2.2.2
def wideI (b : IB) : Bool := decide (b.1 < b.2.2.1) && decide (b.2.1 < b.2.2.2)
def lapI (b c : IB) : Bool := decide (b.1 < c.2.2.1) && (decide (c.1 < b.2.2.1) && (decide (b.2.1 < c.2.2.2) && decide (c.2.1 < b.2.2.2)))
section
variable {u : Int} {b c : IB}
theorem wide_fr (hu : 0 < u) (bu : B100 u) (hb : BdB b) : m_is_wide_box (frB u b) = some (wideI b) := by
  obtain ⟨h1, h2, h3, h4⟩ := hb
  unfold m_is_wide_box frB
  dsimp only
  rw [less_fr hu h1 h3 bu]
  show (cond (decide (b.1 < b.2.2.1)) (m_is_less (lowV b.2.1 u) (lowV b.2.2.2 u) >>= fun v2 => some v2) (some false) >>= fun c3 => some c3) = _
  rw [less_fr hu h2 h4 bu]
  unfold wideI
  cases decide (b.1 < b.2.2.1) <;> rfl
theorem laps_fr (hu : 0 < u) (bu : B100 u) (hb : BdB b) (hc : BdB c) : m_boxes_lap (frB u b) (frB u c) = some ((wideI b || wideI c) && lapI b c) := by
  unfold m_boxes_lap
  rw [wide_fr hu bu hb, wide_fr hu bu hc]
  obtain ⟨h1, h2, h3, h4⟩ := hb
  obtain ⟨k1, k2, k3, k4⟩ := hc
  unfold frB
  dsimp only
  rw [less_fr hu h1 k3 bu, less_fr hu k1 h3 bu, less_fr hu h2 k4 bu, less_fr hu k2 h4 bu]
  unfold lapI
  generalize wideI b = w1
  generalize wideI c = w2
  generalize decide (b.1 < c.2.2.1) = d1
  generalize decide (c.1 < b.2.2.1) = d2
  generalize decide (b.2.1 < c.2.2.2) = d3
  generalize decide (c.2.1 < b.2.2.2) = d4
  cases w1 <;> cases w2 <;> cases d1 <;> cases d2 <;> cases d3 <;> cases d4 <;> rfl
/-- the law's own: of two boxes -/
theorem lap_one : m_law_lap [b] [c] = some (!((decide (b.1 = b.2.2.1) || decide (b.2.1 = b.2.2.2)) && (decide (c.1 = c.2.2.1) || decide (c.2.1 = c.2.2.2))) && lapI b c) := by
  show cond ((decide (b.1 = b.2.2.1) || decide (b.2.1 = b.2.2.2)) && (decide (c.1 = c.2.2.1) || decide (c.2.1 = c.2.2.2))) (some false) (some (lapI b c)) = _
  cases (decide (b.1 = b.2.2.1) || decide (b.2.1 = b.2.2.2)) && (decide (c.1 = c.2.2.1) || decide (c.2.1 = c.2.2.2)) <;> rfl
end
end Ty

set_option maxHeartbeats 4000000
/-! heads, names, lines of sight: the mirrors that laws have in common -/
namespace Ty
open PySem L2
def m_greater (a_p : (Int × Int)) (a_q : (Int × Int)) : Option (Int × Int) :=
 m_is_less a_p a_q >>= fun v1 =>
 cond v1 (some a_q) (some a_p)
def m_common (a_fractions : (List (Int × Int))) : Option Int :=
 forS a_fractions (1 : Int) (fun x2 (s1 : Int) => lcmR s1 x2.2 >>= fun v3 =>
 some v3) >>= fun s1 =>
 some s1
def m_names_of (a_head : (Int × Int × Int × (List (Str × Str × Bool)))) : Option (List Str) :=
 mapR (fun x1 => some x1.1) a_head.2.2.2 >>= fun ys2 =>
 some ys2
def m_number_of (a_head : (Int × Int × Int × (List (Str × Str × Bool)))) (a_name : Str) : Option Int :=
 m_names_of a_head >>= fun v1 =>
 idxR v1 a_name >>= fun v2 =>
 some v2
def m_is_solid (a_sort : Str) : Option Bool :=
 some (decide (a_sort ∈ (["body", "upright", "lying"] : List Str)))
def m_solids_of (a_head : (Int × Int × Int × (List (Str × Str × Bool)))) : Option (List Str) :=
 fltR (fun x1 => m_is_solid x1.2.1 >>= fun v2 =>
 some v2) (fun x1 => some x1.1) a_head.2.2.2 >>= fun ys3 =>
 some ys3
def m_region_of (a_head : (Int × Int × Int × (List (Str × Str × Bool)))) (a_placing : (List (List ((Int × Int) × (Int × Int) × (Int × Int) × (Int × Int))))) (a_ref : (Str × Int)) : Option (List ((Int × Int) × (Int × Int) × (Int × Int) × (Int × Int))) :=
 m_number_of a_head a_ref.1 >>= fun v1 =>
 atI a_head.2.2.2 v1 >>= fun v2 =>
 cond v2.2.2 (atI a_placing v1 >>= fun v3 =>
 atI v3 a_ref.2 >>= fun v4 =>
 some ([v4])) (atI a_placing v1 >>= fun v5 =>
 some v5)
def m_box_of (a_head : (Int × Int × Int × (List (Str × Str × Bool)))) (a_placing : (List (List ((Int × Int) × (Int × Int) × (Int × Int) × (Int × Int))))) (a_ref : (Str × Int)) : Option ((Int × Int) × (Int × Int) × (Int × Int) × (Int × Int)) :=
 m_region_of a_head a_placing a_ref >>= fun v1 =>
 atI v1 (0 : Int) >>= fun v2 =>
 some v2
def m_whole (a_number : (Int × Int)) (a_scale : Int) : Option Int :=
 fdivR a_scale a_number.2 >>= fun v1 =>
 mulR a_number.1 v1 >>= fun v2 =>
 some v2
def m_around (a_point : ((Int × Int) × (Int × Int))) (a_boxes : (List ((Int × Int) × (Int × Int) × (Int × Int) × (Int × Int)))) : Option (Int × (List (Int × Int × Int × Int))) :=
 lc2R (fun x1 => some true) (fun x1 => some ([x1.1, x1.2.1, x1.2.2.1, x1.2.2.2])) (fun x1 x2 => some true) (fun x1 x2 => some x2) a_boxes >>= fun ys3 =>
 catR ([a_point.1, a_point.2]) ys3 >>= fun v4 =>
 m_common v4 >>= fun v5 =>
 m_whole a_point.1 v5 >>= fun v6 =>
 m_whole a_point.2 v5 >>= fun v7 =>
 forS a_boxes ([] : (List (Int × Int × Int × Int))) (fun x9 (s8 : (List (Int × Int × Int × Int))) => m_whole x9.1 v5 >>= fun v10 =>
 m_whole x9.2.1 v5 >>= fun v11 =>
 lt ((v10 - v6), (v11 - v7)) fun sides_12 =>
 (dSeq some) ((uTup (uRC uInt (uR1 uInt))) sides_12) >>= fun v13 =>
 m_whole x9.2.2.1 v5 >>= fun v14 =>
 m_whole x9.2.2.2 v5 >>= fun v15 =>
 catR v13 ([(uInt (v14 - v6)), (uInt (v15 - v7))]) >>= fun v16 =>
 (dTup (dRC dInt (dRC dInt (dRC dInt (dR1 dInt))))) ((uSeq id) v16) >>= fun v17 =>
 pushR s8 v17 >>= fun v18 =>
 some v18.2) >>= fun s8 =>
 some (v5, s8)
def m_is_sooner (a_place : (Int × Int)) (a_other : (Int × Int)) : Option Bool :=
 mulR a_place.1 a_other.2 >>= fun v1 =>
 mulR a_other.1 a_place.2 >>= fun v2 =>
 some (decide (v1 < v2))
def m_entry (a_box : (Int × Int × Int × Int)) (a_direction : (Int × Int)) : Option (Option (Int × Int)) :=
 lt ((0 : Int), (1 : Int)) fun start_1 =>
 (forF ([(a_direction.1, a_box.1, a_box.2.2.1), (a_direction.2, a_box.2.1, a_box.2.2.2)]) (start_1, none) (fun x3 (s2 : ((Int × Int) × (Option (Int × Int)))) => cond (decide (x3.1 = (0 : Int))) (cond ((decide ((0 : Int) < x3.2.1)) || (decide (x3.2.2 < (0 : Int)))) (some (.rt none)) (some (.ct (s2.1, s2.2)))) (lt (absI x3.1) fun length_4 =>
 cond (decide ((cond (decide ((0 : Int) < x3.1)) (x3.2.1, x3.2.2) ((-x3.2.2), (-x3.2.1))).2 ≤ (0 : Int))) (some (.rt none)) ((m_is_sooner s2.1 ((cond (decide ((0 : Int) < x3.1)) (x3.2.1, x3.2.2) ((-x3.2.2), (-x3.2.1))).1, length_4) >>= fun v6 =>
 cond v6 (lt ((cond (decide ((0 : Int) < x3.1)) (x3.2.1, x3.2.2) ((-x3.2.2), (-x3.2.1))).1, length_4) fun start_7 =>
 some start_7) (some s2.1)) >>= fun s5 =>
 ((cond s2.2.isNone (some true) (s2.2 >>= fun v9 =>
 m_is_sooner ((cond (decide ((0 : Int) < x3.1)) (x3.2.1, x3.2.2) ((-x3.2.2), (-x3.2.1))).2, length_4) v9 >>= fun v10 =>
 some v10)) >>= fun c11 =>
 cond c11 (lt (some ((cond (decide ((0 : Int) < x3.1)) (x3.2.1, x3.2.2) ((-x3.2.2), (-x3.2.1))).2, length_4)) fun stop_12 =>
 some stop_12) (some s2.2)) >>= fun s8 =>
 some (.nx (s5, s8))))) : Option (Fl ((Int × Int) × (Option (Int × Int))) (Option (Int × Int)))) >>= (fun o => match o with
 | .nx s2 => s2.2 >>= fun v13 =>
 m_is_sooner v13 s2.1 >>= fun v14 =>
 cond v14 (some none) (some (some s2.1))
 | .rt x => some x
 | .bk _ => none
 | .ct _ => none)
def m_first_entry (a_boxes : (List (Int × Int × Int × Int))) (a_direction : (Int × Int)) : Option (Option (Int × Int)) :=
 forS a_boxes none (fun x2 (s1 : (Option (Int × Int))) => m_entry x2 a_direction >>= fun v3 =>
 ((cond v3.isSome ((cond s1.isNone (some true) (v3 >>= fun v5 =>
 s1 >>= fun v6 =>
 m_is_sooner v5 v6 >>= fun v7 =>
 some v7)) >>= fun c8 =>
 some c8) (some false)) >>= fun c9 =>
 cond c9 (some v3) (some s1)) >>= fun s4 =>
 some s4) >>= fun s1 =>
 some s1
def m_told_number (a_place : (Option (Int × Int))) (a_scale : Int) : Option (Option (Int × Int)) :=
 cond a_place.isNone (some none) (a_place >>= fun v1 =>
 a_place >>= fun v2 =>
 mulR v2.2 a_scale >>= fun v3 =>
 m_lowest v1.1 v3 >>= fun v4 =>
 some (some v4))
def m_met_at (a_region : (List ((Int × Int) × (Int × Int) × (Int × Int) × (Int × Int)))) (a_point : ((Int × Int) × (Int × Int))) (a_direction : (Int × Int)) : Option (Option (Int × Int)) :=
 m_around a_point a_region >>= fun v1 =>
 m_first_entry v1.2 a_direction >>= fun v2 =>
 m_told_number v2 v1.1 >>= fun v3 =>
 some v3
def m_spot_at (a_head : (Int × Int × Int × (List (Str × Str × Bool)))) (a_placing : (List (List ((Int × Int) × (Int × Int) × (Int × Int) × (Int × Int))))) (a_ref : (Str × Int)) : Option ((Int × Int) × (Int × Int)) :=
 m_box_of a_head a_placing a_ref >>= fun v1 =>
 some (v1.1, v1.2.1)
def m_boxes_at (a_head : (Int × Int × Int × (List (Str × Str × Bool)))) (a_placing : (List (List ((Int × Int) × (Int × Int) × (Int × Int) × (Int × Int))))) (a_moment : Int) (a_names : (List Str)) : Option (List ((Int × Int) × (Int × Int) × (Int × Int) × (Int × Int))) :=
 mapR (fun x1 => m_box_of a_head a_placing (x1, a_moment) >>= fun v2 =>
 some v2) a_names >>= fun ys3 =>
 some ys3
def m_firsts_among (a_names : (List Str)) (a_boxes : (List (Int × Int × Int × Int))) (a_direction : (Int × Int)) : Option ((List Str) × (Option (Int × Int))) :=
 forS (List.zip a_names a_boxes) (([] : (List Str)), none) (fun x2 (s1 : ((List Str) × (Option (Int × Int)))) => m_entry x2.2 a_direction >>= fun v3 =>
 cond v3.isNone (some (s1.1, s1.2)) (((cond s1.2.isNone (some true) (v3 >>= fun v5 =>
 s1.2 >>= fun v6 =>
 m_is_sooner v5 v6 >>= fun v7 =>
 some v7)) >>= fun c8 =>
 cond c8 (some ([x2.1], v3)) ((s1.2 >>= fun v10 =>
 v3 >>= fun v11 =>
 m_is_sooner v10 v11 >>= fun v12 =>
 cond (!v12) (pushR s1.1 x2.1 >>= fun v13 =>
 some v13.2) (some s1.1)) >>= fun s9 =>
 some (s9, s1.2))) >>= fun s4 =>
 some (s4.1, s4.2))) >>= fun s1 =>
 some (s1.1, s1.2)
def m_firsts_of (a_head : (Int × Int × Int × (List (Str × Str × Bool)))) (a_placing : (List (List ((Int × Int) × (Int × Int) × (Int × Int) × (Int × Int))))) (a_ref : (Str × Int)) (a_direction : (Int × Int)) : Option ((List Str) × (Option (Int × Int))) :=
 m_solids_of a_head >>= fun v1 =>
 m_spot_at a_head a_placing a_ref >>= fun v2 =>
 m_boxes_at a_head a_placing a_ref.2 v1 >>= fun v3 =>
 m_around v2 v3 >>= fun v4 =>
 m_firsts_among v1 v4.2 a_direction >>= fun v5 =>
 m_told_number v5.2 v4.1 >>= fun v6 =>
 some (v5.1, v6)
def m_law_shuffled {Aa : Type} (tp : Tape) (a_menu : (List Aa)) : Option ((List Aa) × Tape) :=
 rng1 (a_menu.length : Int) >>= fun v1 =>
 forS v1 (a_menu, ([] : (List Aa)), tp) (fun x3 (s2 : ((List Aa) × (List Aa) × Tape)) => m_law_draw s2.2.2 (s2.1.length : Int) >>= fun v4 =>
 popAtR s2.1 v4.1 >>= fun v5 =>
 pushR s2.2.1 v5.1 >>= fun v6 =>
 some (v5.2, v6.2, v4.2)) >>= fun s2 =>
 some (s2.2.1, s2.2.2)
def m_law_names (tp : Tape) (a_many : Int) : Option ((List Str) × Tape) :=
 lt ("abcdefghijklmnopqrstuvwxyz0123456789" : Str) fun signs_1 =>
 m_law_pick tp ([("" : Str), ("" : Str), ("" : Str), ("b" : Str), ("box" : Str), ("a0a0a0" : Str)]) >>= fun v2 =>
 rng1 a_many >>= fun v3 =>
 forS v3 (([] : (List Str)), v2.2) (fun x5 (s4 : ((List Str) × Tape)) => lenT v2.1 >>= fun v6 =>
 m_law_pick s4.2 ([(1 : Int), (1 : Int), (2 : Int), ((8 : Int) - v6)]) >>= fun v7 =>
 rng1 v7.1 >>= fun v8 =>
 forS v8 (v2.1, v7.2) (fun x10 (s9 : (Str × Tape)) => m_law_draw s9.2 (cond (!decide (s9.1 = ("" : Str))) (36 : Int) (26 : Int)) >>= fun v11 =>
 atT signs_1 v11.1 >>= fun v12 =>
 catT s9.1 v12 >>= fun v13 =>
 some (v13, v11.2)) >>= fun s9 =>
 (m_law_draw s9.2 (9 : Int) >>= fun v15 =>
 cond (decide (v15.1 = (0 : Int))) (m_law_pick v15.2 ([("west" : Str), ("meets" : Str), ("open" : Str), ("rests" : Str), ("sums" : Str), ("nots" : Str), ("x" : Str), ("side" : Str), ("width" : Str), ("stays" : Str)]) >>= fun v16 =>
 some (v16.1, v16.2)) (some (s9.1, v15.2))) >>= fun s14 =>
 (cond ((decide (s14.1 ∈ s4.1)) || (decide (s14.1 ∈ [("always" : Str), ("and" : Str), ("never" : Str), ("not" : Str), ("or" : Str), ("shoved" : Str), ("slides" : Str), ("sum" : Str)]))) (rng1 ((s4.1.length : Int) + (1 : Int)) >>= fun v18 =>
 mapR (fun x19 => strI x19 >>= fun v20 =>
 catT ("q" : Str) v20 >>= fun v21 =>
 some v21) v18 >>= fun ys22 =>
 fltR (fun x23 => some (!decide (x23 ∈ s4.1))) (fun x23 => some x23) ys22 >>= fun ys24 =>
 atI ys24 (0 : Int) >>= fun v25 =>
 some v25) (some s14.1)) >>= fun s17 =>
 pushR s4.1 s17 >>= fun v26 =>
 some (v26.2, s14.2)) >>= fun s4 =>
 some (s4.1, s4.2)
def m_law_plus (a_p : (Int × Int)) (a_q : (Int × Int)) : Option (Int × Int) :=
 mulR a_p.1 a_q.2 >>= fun v1 =>
 mulR a_q.1 a_p.2 >>= fun v2 =>
 mulR a_p.2 a_q.2 >>= fun v3 =>
 m_law_low (v1 + v2) v3 >>= fun v4 =>
 some v4
def m_law_minus (a_p : (Int × Int)) (a_q : (Int × Int)) : Option (Int × Int) :=
 mulR a_p.1 a_q.2 >>= fun v1 =>
 mulR a_q.1 a_p.2 >>= fun v2 =>
 mulR a_p.2 a_q.2 >>= fun v3 =>
 m_law_low (v1 - v2) v3 >>= fun v4 =>
 some v4
def m_law_less (a_p : (Int × Int)) (a_q : (Int × Int)) : Option Bool :=
 mulR a_p.1 a_q.2 >>= fun v1 =>
 mulR a_q.1 a_p.2 >>= fun v2 =>
 some (decide (v1 < v2))
def m_law_most (a_p : (Int × Int)) (a_q : (Int × Int)) : Option Bool :=
 mulR a_p.1 a_q.2 >>= fun v1 =>
 mulR a_q.1 a_p.2 >>= fun v2 =>
 some (decide (v1 ≤ v2))
def m_law_fraction (tp : Tape) (a_low : Int) (a_high : Int) : Option ((Int × Int) × Tape) :=
 m_law_pick tp ([(1 : Int), (1 : Int), (1 : Int), (2 : Int), (2 : Int), (3 : Int), (4 : Int), (6 : Int), (8 : Int)]) >>= fun v1 =>
 mulR a_low v1.1 >>= fun v2 =>
 mulR (a_high - a_low) v1.1 >>= fun v3 =>
 m_law_draw v1.2 (v3 + (1 : Int)) >>= fun v4 =>
 m_law_low (v2 + v4.1) v1.1 >>= fun v5 =>
 some (v5, v4.2)
def m_law_world (a_head : (Int × Int × Int × (List (Str × Str × Bool)))) (a_placing : (List (List ((Int × Int) × (Int × Int) × (Int × Int) × (Int × Int))))) : Option ((Int × Int × Int × (List (Str × Str × Bool))) × Int × (List (List (Int × Int × Int × Int)))) :=
 forS a_placing (1 : Int) (fun x2 (s1 : Int) => forS x2 s1 (fun x4 (s3 : Int) => forS ([x4.1, x4.2.1, x4.2.2.1, x4.2.2.2]) s3 (fun x6 (s5 : Int) => (fmodR s5 x6.2 >>= fun v8 =>
 cond (decide ((0 : Int) < v8)) (m_law_low s5 x6.2 >>= fun v9 =>
 mulR s5 v9.2 >>= fun v10 =>
 some v10) (some s5)) >>= fun s7 =>
 some s7) >>= fun s5 =>
 some s5) >>= fun s3 =>
 some s3) >>= fun s1 =>
 mulR (2 : Int) s1 >>= fun v11 =>
 forS a_placing ([] : (List (List (Int × Int × Int × Int)))) (fun x13 (s12 : (List (List (Int × Int × Int × Int)))) => forS x13 ([] : (List (Int × Int × Int × Int))) (fun x15 (s14 : (List (Int × Int × Int × Int))) => mapR (fun x16 => fdivR v11 x16.2 >>= fun v17 =>
 mulR x16.1 v17 >>= fun v18 =>
 some v18) ([x15.1, x15.2.1, x15.2.2.1, x15.2.2.2]) >>= fun ys19 =>
 (dTup (dRC dInt (dRC dInt (dRC dInt (dR1 dInt))))) ((uSeq uInt) ys19) >>= fun v20 =>
 pushR s14 v20 >>= fun v21 =>
 some v21.2) >>= fun s14 =>
 pushR s12 s14 >>= fun v22 =>
 some v22.2) >>= fun s12 =>
 some (a_head, v11, s12)
def m_law_place (a_world : ((Int × Int × Int × (List (Str × Str × Bool))) × Int × (List (List (Int × Int × Int × Int))))) (a_ref : (Str × Int)) : Option (List (Int × Int × Int × Int)) :=
 mapR (fun x1 => some x1.1) a_world.1.2.2.2 >>= fun ys2 =>
 idxR ys2 a_ref.1 >>= fun v3 =>
 atI a_world.1.2.2.2 v3 >>= fun v4 =>
 cond (decide (v4.2.1 = ("land" : Str))) (atI a_world.2.2 v3 >>= fun v5 =>
 some v5) (atI a_world.2.2 v3 >>= fun v6 =>
 atI v6 (cond v4.2.2 a_ref.2 (0 : Int)) >>= fun v7 =>
 some ([v7]))
def m_law_solids (a_world : ((Int × Int × Int × (List (Str × Str × Bool))) × Int × (List (List (Int × Int × Int × Int))))) : Option (List Str) :=
 fltR (fun x1 => some (decide (x1.2.1 ∈ [("body" : Str), ("upright" : Str), ("lying" : Str)]))) (fun x1 => some x1.1) a_world.1.2.2.2 >>= fun ys2 =>
 some ys2
def m_law_mark (a_box : (Int × Int × Int × Int)) (a_mark : Str) : Option Int :=
 cond (decide (a_mark = ("width" : Str))) (some (a_box.2.2.1 - a_box.1)) (cond (decide (a_mark = ("height" : Str))) (some (a_box.2.2.2 - a_box.2.1)) (idxR ([("west" : Str), ("south" : Str), ("east" : Str), ("north" : Str)]) a_mark >>= fun v1 =>
 atI ([a_box.1, a_box.2.1, a_box.2.2.1, a_box.2.2.2]) v1 >>= fun v2 =>
 some v2))
def m_law_sum_of (a_world : ((Int × Int × Int × (List (Str × Str × Bool))) × Int × (List (List (Int × Int × Int × Int))))) (a_terms : (List (Int × Str × (Str × Int)))) : Option Int :=
 forS a_terms (0 : Int) (fun x2 (s1 : Int) => m_law_place a_world x2.2.2 >>= fun v3 =>
 atI v3 (0 : Int) >>= fun v4 =>
 m_law_mark v4 x2.2.1 >>= fun v5 =>
 mulR x2.1 v5 >>= fun v6 =>
 lt (s1 + v6) fun told_7 =>
 some told_7) >>= fun s1 =>
 some s1
def m_law_stands (a_m : Int) (a_op : Str) (a_n : Int) : Option Bool :=
 cond (decide (a_op = ("=" : Str))) (some (decide (a_m = a_n))) (cond (decide (a_op = (">=" : Str))) (some (decide (a_n ≤ a_m))) (cond (decide (a_op = (">" : Str))) (some (decide (a_n < a_m))) (cond (decide (a_op = ("<=" : Str))) (some (decide (a_m ≤ a_n))) (some (decide (a_m < a_n))))))
def m_law_met_box (a_box : (Int × Int × Int × Int)) (a_x : Int) (a_y : Int) (a_u : Int) (a_v : Int) : Option (Option (Int × Int)) :=
 lt ((0 : Int), (1 : Int)) fun low_1 =>
 (forF ([(a_x, a_u, a_box.1, a_box.2.2.1), (a_y, a_v, a_box.2.1, a_box.2.2.2)]) (low_1, none) (fun x3 (s2 : ((Int × Int) × (Option (Int × Int)))) => (cond (decide (x3.2.1 = (0 : Int))) (cond ((decide (x3.1 < x3.2.2.1)) || (decide (x3.2.2.2 < x3.1))) (some (.rt none)) (some (.nx (s2.1, s2.2)))) (lt (cond (decide ((0 : Int) < x3.2.1)) ((x3.2.2.1 - x3.1), x3.2.1) ((x3.1 - x3.2.2.2), ((0 : Int) - x3.2.1))) fun first_5 =>
 lt (cond (decide ((0 : Int) < x3.2.1)) ((x3.2.2.2 - x3.1), x3.2.1) ((x3.1 - x3.2.2.1), ((0 : Int) - x3.2.1))) fun last_6 =>
 cond (decide (last_6.1 ≤ (0 : Int))) (some (.rt none)) ((mulR s2.1.1 first_5.2 >>= fun v8 =>
 mulR first_5.1 s2.1.2 >>= fun v9 =>
 cond (decide (v8 < v9)) (some first_5) (some s2.1)) >>= fun s7 =>
 ((cond s2.2.isNone (some true) (s2.2 >>= fun v11 =>
 mulR last_6.1 v11.2 >>= fun v12 =>
 s2.2 >>= fun v13 =>
 mulR v13.1 last_6.2 >>= fun v14 =>
 some (decide (v12 < v14)))) >>= fun c15 =>
 cond c15 (some (some last_6)) (some s2.2)) >>= fun s10 =>
 some (.nx (s7, s10)))) : Option (Fl ((Int × Int) × (Option (Int × Int))) (Option (Int × Int)))) >>= (fun o => match o with
 | .nx s4 => some (.nx (s4.1, s4.2))
 | .rt x => some (.rt x)
 | .bk _ => none
 | .ct _ => none)) : Option (Fl ((Int × Int) × (Option (Int × Int))) (Option (Int × Int)))) >>= (fun o => match o with
 | .nx s2 => s2.2 >>= fun v16 =>
 mulR v16.1 s2.1.2 >>= fun v17 =>
 s2.2 >>= fun v18 =>
 mulR s2.1.1 v18.2 >>= fun v19 =>
 cond (decide (v17 < v19)) (some none) (some (some s2.1))
 | .rt x => some x
 | .bk _ => none
 | .ct _ => none)
def m_law_met (a_boxes : (List (Int × Int × Int × Int))) (a_x : Int) (a_y : Int) (a_u : Int) (a_v : Int) : Option (Option (Int × Int)) :=
 forS a_boxes none (fun x2 (s1 : (Option (Int × Int))) => m_law_met_box x2 a_x a_y a_u a_v >>= fun v3 =>
 ((cond v3.isSome ((cond s1.isNone (some true) (v3 >>= fun v5 =>
 s1 >>= fun v6 =>
 mulR v5.1 v6.2 >>= fun v7 =>
 s1 >>= fun v8 =>
 v3 >>= fun v9 =>
 mulR v8.1 v9.2 >>= fun v10 =>
 some (decide (v7 < v10)))) >>= fun c11 =>
 some c11) (some false)) >>= fun c12 =>
 cond c12 (some v3) (some s1)) >>= fun s4 =>
 some s4) >>= fun s1 =>
 some s1
def m_law_looks (a_world : ((Int × Int × Int × (List (Str × Str × Bool))) × Int × (List (List (Int × Int × Int × Int))))) (a_s : U) : Option Bool :=
 U.get a_s (1 : Int) >>= fun v1 =>
 U.get v1 (1 : Int) >>= fun v2 =>
 dInt v2 >>= fun v3 =>
 U.get a_s (1 : Int) >>= fun v4 =>
 (dTup (dRC dStr (dR1 dInt))) v4 >>= fun v5 =>
 m_law_place a_world v5 >>= fun v6 =>
 atI v6 (0 : Int) >>= fun v7 =>
 m_law_solids a_world >>= fun v8 =>
 forS v8 ([] : (List (Int × Int))) (fun x10 (s9 : (List (Int × Int))) => m_law_place a_world (x10, v3) >>= fun v11 =>
 U.get a_s (2 : Int) >>= fun v12 =>
 dInt v12 >>= fun v13 =>
 U.get a_s (3 : Int) >>= fun v14 =>
 dInt v14 >>= fun v15 =>
 m_law_met v11 v7.1 v7.2.1 v13 v15 >>= fun v16 =>
 ((cond v16.isSome (U.get a_s (0 : Int) >>= fun v18 =>
 dStr v18 >>= fun v19 =>
 (cond (decide (v19 = ("open" : Str))) (some true) (U.get a_s (4 : Int) >>= fun v20 =>
 dStr v20 >>= fun v21 =>
 some (!decide (x10 = v21)))) >>= fun c22 =>
 some c22) (some false)) >>= fun c23 =>
 cond c23 (v16 >>= fun v24 =>
 pushR s9 v24 >>= fun v25 =>
 some v25.2) (some s9)) >>= fun s17 =>
 some s17) >>= fun s9 =>
 U.get a_s (0 : Int) >>= fun v26 =>
 dStr v26 >>= fun v27 =>
 cond (decide (v27 = ("open" : Str))) ((forF s9 () (fun x29 (s28 : Unit) => U.get a_s (5 : Int) >>= fun v30 =>
 U.get v30 (1 : Int) >>= fun v31 =>
 dInt v31 >>= fun v32 =>
 mulR x29.1 v32 >>= fun v33 =>
 U.get a_s (4 : Int) >>= fun v34 =>
 dStr v34 >>= fun v35 =>
 U.get a_s (5 : Int) >>= fun v36 =>
 U.get v36 (0 : Int) >>= fun v37 =>
 dInt v37 >>= fun v38 =>
 mulR v38 x29.2 >>= fun v39 =>
 mulR v39 a_world.2.1 >>= fun v40 =>
 m_law_stands v33 v35 v40 >>= fun v41 =>
 cond (!v41) (some (.rt false)) (some (.nx ()))) : Option (Fl Unit Bool)) >>= (fun o => match o with
 | .nx s28 => some true
 | .rt x => some x
 | .bk _ => none
 | .ct _ => none)) (U.get a_s (4 : Int) >>= fun v42 =>
 dStr v42 >>= fun v43 =>
 m_law_place a_world (v43, v3) >>= fun v44 =>
 U.get a_s (2 : Int) >>= fun v45 =>
 dInt v45 >>= fun v46 =>
 U.get a_s (3 : Int) >>= fun v47 =>
 dInt v47 >>= fun v48 =>
 m_law_met v44 v7.1 v7.2.1 v46 v48 >>= fun v49 =>
 (cond v49.isNone (some true) (v49 >>= fun v50 =>
 U.get a_s (5 : Int) >>= fun v51 =>
 U.get v51 (1 : Int) >>= fun v52 =>
 dInt v52 >>= fun v53 =>
 mulR v50.1 v53 >>= fun v54 =>
 U.get a_s (5 : Int) >>= fun v55 =>
 U.get v55 (0 : Int) >>= fun v56 =>
 dInt v56 >>= fun v57 =>
 v49 >>= fun v58 =>
 mulR v57 v58.2 >>= fun v59 =>
 mulR v59 a_world.2.1 >>= fun v60 =>
 (cond (decide (v54 < v60)) (some true) (v49 >>= fun v61 =>
 U.get a_s (6 : Int) >>= fun v62 =>
 U.get v62 (1 : Int) >>= fun v63 =>
 dInt v63 >>= fun v64 =>
 mulR v61.1 v64 >>= fun v65 =>
 U.get a_s (6 : Int) >>= fun v66 =>
 U.get v66 (0 : Int) >>= fun v67 =>
 dInt v67 >>= fun v68 =>
 v49 >>= fun v69 =>
 mulR v68 v69.2 >>= fun v70 =>
 mulR v70 a_world.2.1 >>= fun v71 =>
 some (decide (v71 < v65)))) >>= fun c72 =>
 some c72)) >>= fun c73 =>
 cond c73 (some false) ((forF s9 () (fun x75 (s74 : Unit) => v49 >>= fun v76 =>
 mulR x75.1 v76.2 >>= fun v77 =>
 v49 >>= fun v78 =>
 mulR v78.1 x75.2 >>= fun v79 =>
 cond (decide (v77 < v79)) (some (.rt false)) (some (.nx ()))) : Option (Fl Unit Bool)) >>= (fun o => match o with
 | .nx s74 => some true
 | .rt x => some x
 | .bk _ => none
 | .ct _ => none)))
def m_law_line_spot (a_world : ((Int × Int × Int × (List (Str × Str × Bool))) × Int × (List (List (Int × Int × Int × Int))))) (a_ref : (Str × Int)) : Option (Int × Int) :=
 m_law_place a_world a_ref >>= fun v1 =>
 atI v1 (0 : Int) >>= fun v2 =>
 some (v2.1, v2.2.1)
def m_law_line_solids (a_world : ((Int × Int × Int × (List (Str × Str × Bool))) × Int × (List (List (Int × Int × Int × Int))))) (a_moment : Int) : Option (List (Str × (List (Int × Int × Int × Int)))) :=
 m_law_solids a_world >>= fun v1 =>
 mapR (fun x2 => m_law_place a_world (x2, a_moment) >>= fun v3 =>
 some (x2, v3)) v1 >>= fun ys4 =>
 some ys4
def m_law_line_less (a_p : (Option (Int × Int))) (a_q : (Option (Int × Int))) : Option Bool :=
 cond a_p.isNone (some false) ((cond a_q.isNone (some true) (a_p >>= fun v1 =>
 a_q >>= fun v2 =>
 mulR v1.1 v2.2 >>= fun v3 =>
 a_q >>= fun v4 =>
 a_p >>= fun v5 =>
 mulR v4.1 v5.2 >>= fun v6 =>
 some (decide (v3 < v6)))) >>= fun c7 =>
 some c7)
def m_law_line_number (a_world : ((Int × Int × Int × (List (Str × Str × Bool))) × Int × (List (List (Int × Int × Int × Int))))) (a_t : (Option (Int × Int))) : Option (Option (Int × Int)) :=
 cond a_t.isNone (some none) (a_t >>= fun v1 =>
 a_t >>= fun v2 =>
 mulR v2.2 a_world.2.1 >>= fun v3 =>
 m_law_low v1.1 v3 >>= fun v4 =>
 some (some v4))
def m_law_line_firsts (a_solids : (List (Str × (List (Int × Int × Int × Int))))) (a_x : Int) (a_y : Int) (a_u : Int) (a_v : Int) : Option ((List Str) × (Option (Int × Int))) :=
 forS a_solids (none, ([] : (List Str))) (fun x2 (s1 : ((Option (Int × Int)) × (List Str))) => m_law_met x2.2 a_x a_y a_u a_v >>= fun v3 =>
 ((cond v3.isSome (m_law_line_less s1.1 v3 >>= fun v5 =>
 some (!v5)) (some false)) >>= fun c6 =>
 cond c6 ((m_law_line_less v3 s1.1 >>= fun v8 =>
 cond v8 (some (v3, ([] : (List Str)))) (some (s1.1, s1.2))) >>= fun s7 =>
 pushR s7.2 x2.1 >>= fun v9 =>
 some (s7.1, v9.2)) (some (s1.1, s1.2))) >>= fun s4 =>
 some (s4.1, s4.2)) >>= fun s1 =>
 some (s1.2, s1.1)
def m_law_line_plain (a_way : (Int × Int)) : Option (Int × Int) :=
 lt (absI a_way.1) fun a_1 =>
 lt (absI a_way.2) fun b_2 =>
 (whl (b_2.toNat + 1) (a_1, b_2) (fun (s3 : (Int × Int)) => cond (decide ((0 : Int) < s3.2)) (fmodR s3.1 s3.2 >>= fun v4 =>
 some (.nx (s3.2, v4))) (some (.bk s3))) : Option (Fl (Int × Int) (Int × Int))) >>= (fun o => match o with
 | .nx s3 => fdivR a_way.1 s3.1 >>= fun v5 =>
 fdivR a_way.2 s3.1 >>= fun v6 =>
 some (v5, v6)
 | .rt x => some x
 | .bk _ => none
 | .ct _ => none)
def m_law_line_long (a_sort : Str) : Option (Int × Int) :=
 some ((if (!decide (a_sort ∈ [("spot" : Str), ("upright" : Str)])) then (1 : Int) else 0), (if (!decide (a_sort ∈ [("spot" : Str), ("lying" : Str)])) then (1 : Int) else 0))
def m_law_line_stretch (tp : Tape) (a_most : Int) (a_long : Int) : Option ((Int × Int) × Tape) :=
 m_law_draw tp ((a_most + (1 : Int)) - a_long) >>= fun v1 =>
 m_law_draw v1.2 (a_most - v1.1) >>= fun v2 =>
 mulR a_long ((1 : Int) + v2.1) >>= fun v3 =>
 some ((v1.1, (v1.1 + v3)), v2.2)
def m_law_line_boxes (tp : Tape) (a_thing : (Str × Str × Bool)) (a_moments : Int) (a_wide : Int) (a_high : Int) : Option ((List (Int × Int × Int × Int)) × Tape) :=
 m_law_line_long a_thing.2.1 >>= fun v1 =>
 (cond (decide (a_thing.2.1 = ("land" : Str))) (m_law_pick tp ([(1 : Int), (2 : Int), (2 : Int), (3 : Int)]) >>= fun v2 =>
 some (v2.1, v2.2)) (some ((1 : Int), tp))) >>= fun c3 =>
 rng1 c3.1 >>= fun v5 =>
 forS v5 (Sum.inl (([] : (List (Int × Int × Int × Int))), c3.2) : Sum ((List (Int × Int × Int × Int)) × Tape) ((List (Int × Int × Int × Int)) × Tape × (Int × Int) × (Int × Int))) (fun x7 s6 => match s6 with
 | .inl s6 => m_law_line_stretch s6.2 a_wide v1.1 >>= fun v8 =>
 m_law_line_stretch v8.2 a_high v1.2 >>= fun v9 =>
 pushR s6.1 (v8.1.1, v9.1.1, v8.1.2, v9.1.2) >>= fun v10 =>
 some (.inr (v10.2, v9.2, v8.1, v9.1))
 | .inr s6 => m_law_line_stretch s6.2.1 a_wide v1.1 >>= fun v11 =>
 m_law_line_stretch v11.2 a_high v1.2 >>= fun v12 =>
 pushR s6.1 (v11.1.1, v12.1.1, v11.1.2, v12.1.2) >>= fun v13 =>
 some (.inr (v13.2, v12.2, v11.1, v12.1))) >>= fun s6 => (match s6 with
 | .inl _ => none
 | .inr s6 => rng1 (cond a_thing.2.2 (a_moments - (1 : Int)) (0 : Int)) >>= fun v14 =>
 forS v14 (s6.1, s6.2.1) (fun x16 (s15 : ((List (Int × Int × Int × Int)) × Tape)) => m_law_draw s15.2 ((a_wide + (1 : Int)) - (s6.2.2.1.2 - s6.2.2.1.1)) >>= fun v17 =>
 m_law_draw v17.2 ((a_high + (1 : Int)) - (s6.2.2.2.2 - s6.2.2.2.1)) >>= fun v18 =>
 pushR s15.1 (v17.1, v18.1, ((v17.1 + s6.2.2.1.2) - s6.2.2.1.1), ((v18.1 + s6.2.2.2.2) - s6.2.2.2.1)) >>= fun v19 =>
 some (v19.2, v18.2)) >>= fun s15 =>
 some (s15.1, s15.2))
def m_law_line_head (tp : Tape) (a_sorts : (List Str)) : Option ((Int × Int × Int × (List (Str × Str × Bool))) × Tape) :=
 m_law_names tp (a_sorts.length : Int) >>= fun v1 =>
 m_law_pick v1.2 ([(1 : Int), (1 : Int), (1 : Int), (2 : Int), (3 : Int)]) >>= fun v2 =>
 rng1 (a_sorts.length : Int) >>= fun v3 =>
 forS v3 (([] : (List (Str × Str × Bool))), v2.2) (fun x5 (s4 : ((List (Str × Str × Bool)) × Tape)) => atI v1.1 x5 >>= fun v6 =>
 atI a_sorts x5 >>= fun v7 =>
 atI a_sorts x5 >>= fun v8 =>
 (cond (decide (v8 ∈ [("spot" : Str), ("area" : Str), ("body" : Str)])) (m_law_draw s4.2 (2 : Int) >>= fun v9 =>
 some ((decide (v9.1 = (0 : Int))), v9.2)) (some (false, s4.2))) >>= fun c10 =>
 pushR s4.1 (v6, v7, c10.1) >>= fun v12 =>
 some (v12.2, c10.2)) >>= fun s4 =>
 m_law_draw s4.2 (6 : Int) >>= fun v13 =>
 m_law_draw v13.2 (6 : Int) >>= fun v14 =>
 some ((((3 : Int) + v13.1), ((3 : Int) + v14.1), v2.1, s4.1), v14.2)
def m_law_line_fractions (a_boxes : (List (Int × Int × Int × Int))) (a_unit : Int) (a_scale : Int) : Option (List ((Int × Int) × (Int × Int) × (Int × Int) × (Int × Int))) :=
 mapR (fun x1 => mapR (fun x2 => mulR a_scale x2 >>= fun v3 =>
 m_law_low v3 a_unit >>= fun v4 =>
 some v4) ([x1.1, x1.2.1, x1.2.2.1, x1.2.2.2]) >>= fun ys5 =>
 some ys5) a_boxes >>= fun ys6 =>
 (dSeq (dTup (dRC (dTup (dRC dInt (dR1 dInt))) (dRC (dTup (dRC dInt (dR1 dInt))) (dRC (dTup (dRC dInt (dR1 dInt))) (dR1 (dTup (dRC dInt (dR1 dInt))))))))) ((uSeq (uSeq (uTup (uRC uInt (uR1 uInt))))) ys6) >>= fun v7 =>
 some v7
def m_law_line_placed (tp : Tape) (a_head : (Int × Int × Int × (List (Str × Str × Bool)))) (a_unit : Int) (a_scale : Int) : Option ((List (List ((Int × Int) × (Int × Int) × (Int × Int) × (Int × Int)))) × Tape) :=
 forS a_head.2.2.2 (([] : (List (List ((Int × Int) × (Int × Int) × (Int × Int) × (Int × Int))))), tp) (fun x2 (s1 : ((List (List ((Int × Int) × (Int × Int) × (Int × Int) × (Int × Int)))) × Tape)) => mulR a_head.1 a_unit >>= fun v3 =>
 fdivR v3 a_scale >>= fun v4 =>
 mulR a_head.2.1 a_unit >>= fun v5 =>
 fdivR v5 a_scale >>= fun v6 =>
 m_law_line_boxes s1.2 x2 a_head.2.2.1 v4 v6 >>= fun v7 =>
 m_law_line_fractions v7.1 a_unit a_scale >>= fun v8 =>
 pushR s1.1 v8 >>= fun v9 =>
 some (v9.2, v7.2)) >>= fun s1 =>
 some (s1.1, s1.2)
def m_law_line_scene (tp : Tape) (a_many : Int) : Option (((Int × Int × Int × (List (Str × Str × Bool))) × (List (List ((Int × Int) × (Int × Int) × (Int × Int) × (Int × Int)))) × (Str × Int)) × Tape) :=
 m_law_draw tp a_many >>= fun v1 =>
 rng1 ((1 : Int) + v1.1) >>= fun v2 =>
 forS v2 ([("spot" : Str)], v1.2) (fun x4 (s3 : ((List Str) × Tape)) => m_law_pick s3.2 ([("body" : Str), ("body" : Str), ("upright" : Str), ("lying" : Str), ("area" : Str), ("land" : Str), ("spot" : Str), ("upright" : Str)]) >>= fun v5 =>
 pushR s3.1 v5.1 >>= fun v6 =>
 some (v6.2, v5.2)) >>= fun s3 =>
 m_law_shuffled s3.2 s3.1 >>= fun v7 =>
 m_law_line_head v7.2 v7.1 >>= fun v8 =>
 m_law_pick v8.2 ([(1 : Int), (1 : Int), (1 : Int), (1 : Int), (1 : Int), (1 : Int), (1 : Int), (124 : Int)]) >>= fun v9 =>
 mulR v8.1.1 v9.1 >>= fun v10 =>
 mulR v8.1.2.1 v9.1 >>= fun v11 =>
 lt (v10, v11, v8.1.2.2.1, v8.1.2.2.2) fun head_12 =>
 m_law_pick v9.2 ([(1 : Int), (1 : Int), (1 : Int), (2 : Int), (3 : Int)]) >>= fun v13 =>
 m_law_line_placed v13.2 head_12 v13.1 v9.1 >>= fun v14 =>
 fltR (fun x15 => some (decide (x15.2.1 = ("spot" : Str)))) (fun x15 => some x15.1) head_12.2.2.2 >>= fun ys16 =>
 m_law_pick v14.2 ys16 >>= fun v17 =>
 m_law_draw v17.2 head_12.2.2.1 >>= fun v18 =>
 lt (v17.1, v18.1) fun ref_19 =>
 some ((head_12, v14.1, ref_19), v18.2)
def m_law_line_way (tp : Tape) (a_world : ((Int × Int × Int × (List (Str × Str × Bool))) × Int × (List (List (Int × Int × Int × Int))))) (a_ref : (Str × Int)) (a_most : Int) : Option ((Int × Int) × Tape) :=
 m_law_line_spot a_world a_ref >>= fun v1 =>
 m_law_draw tp (4 : Int) >>= fun v2 =>
 m_law_pick v2.2 a_world.1.2.2.2 >>= fun v3 =>
 m_law_place a_world (v3.1.1, a_ref.2) >>= fun v4 =>
 m_law_pick v3.2 v4 >>= fun v5 =>
 m_law_pick v5.2 ([v5.1.1, v5.1.2.2.1]) >>= fun v6 =>
 lt (v6.1 - v1.1) fun u_7 =>
 m_law_pick v6.2 ([v5.1.2.1, v5.1.2.2.2]) >>= fun v8 =>
 lt (v8.1 - v1.2) fun v_9 =>
 m_law_pick v8.2 ([(1 : Int), (1 : Int), (2 : Int), (3 : Int)]) >>= fun v10 =>
 (cond ((decide (v2.1 < (2 : Int))) && ((!decide (u_7 = (0 : Int))) || (!decide (v_9 = (0 : Int))))) (m_law_line_plain (u_7, v_9) >>= fun v12 =>
 mulR v10.1 (maxI (absI v12.1) (absI v12.2)) >>= fun v13 =>
 cond (decide (v13 ≤ a_most)) (mulR v10.1 v12.1 >>= fun v14 =>
 mulR v10.1 v12.2 >>= fun v15 =>
 some (.rt ((v14, v15), v10.2))) (some (.nx ()))) (some (.nx ())) : Option (Fl Unit ((Int × Int) × Tape))) >>= (fun o => match o with
 | .nx s11 => cond (decide (v2.1 = (2 : Int))) (m_law_pick v10.2 ([((1 : Int), (0 : Int)), ((0 : Int), (1 : Int)), ((-(1 : Int)), (0 : Int)), ((0 : Int), (-(1 : Int)))]) >>= fun v16 =>
 mulR v10.1 v16.1.1 >>= fun v17 =>
 mulR v10.1 v16.1.2 >>= fun v18 =>
 some ((v17, v18), v16.2)) (mulR (2 : Int) a_most >>= fun v19 =>
 m_law_draw v10.2 (v19 + (1 : Int)) >>= fun v20 =>
 lt (v20.1 - a_most) fun u_21 =>
 m_law_draw v20.2 (7 : Int) >>= fun v22 =>
 lt (v22.1 - (3 : Int)) fun v_23 =>
 m_law_draw v22.2 (2 : Int) >>= fun v24 =>
 cond (decide (v24.1 = (0 : Int))) (some ((cond ((!decide (u_21 = (0 : Int))) || (!decide (v_23 = (0 : Int)))) (v_23, u_21) ((1 : Int), (0 : Int))), v24.2)) (some ((cond ((!decide (u_21 = (0 : Int))) || (!decide (v_23 = (0 : Int)))) (u_21, v_23) ((0 : Int), (-(1 : Int)))), v24.2)))
 | .rt x => some x
 | .bk _ => none
 | .ct _ => none)
def m_law_line_mark (tp : Tape) (a_number : (Option (Int × Int))) : Option ((Int × Int) × Tape) :=
 (cond a_number.isNone (m_law_fraction tp (0 : Int) (9 : Int) >>= fun v2 =>
 some ((some v2.1), v2.2)) (some (a_number, tp))) >>= fun s1 =>
 m_law_draw s1.2 (6 : Int) >>= fun v3 =>
 m_law_low (1 : Int) ((2 : Int) + v3.1) >>= fun v4 =>
 s1.1 >>= fun v5 =>
 m_law_plus v5 v4 >>= fun v6 =>
 s1.1 >>= fun v7 =>
 m_law_minus v7 v4 >>= fun v8 =>
 m_law_fraction v3.2 (0 : Int) (12 : Int) >>= fun v9 =>
 lt ([s1.1, s1.1, s1.1, (some v6), (some v8), (some ((0 : Int), (1 : Int))), (some v9.1)]) fun menu_10 =>
 m_law_pick v9.2 menu_10 >>= fun v11 =>
 v11.1 >>= fun v12 =>
 (cond (decide ((0 : Int) ≤ v12.1)) (v11.1 >>= fun v13 =>
 some v13) (some ((0 : Int), (1 : Int)))) >>= fun c14 =>
 some (c14, v11.2)
end Ty

set_option maxHeartbeats 4000000
/-! where a line of sight enters boxes: plain Lean -/
namespace Ty
open PySem L2
theorem Ok.get {α β : Type} {m : Option α} {v : α} {k : α → Option β} {P : β → Prop} (e : m = some v) (h : Ok (k v) P) : Ok (m >>= k) P := by subst e; exact h
theorem Ok.eq {α : Type} {m : Option α} {v : α} (h : Ok m fun x => x = v) : m = some v := by obtain ⟨x, e, rfl⟩ := h; exact e
theorem Ok.of {α : Type} {m : Option α} {v : α} {P : α → Prop} (e : m = some v) (h : P v) : Ok m P := ⟨v, e, h⟩
theorem ok_cons {α S : Type} {f : α → S → Option S} {x : α} {xs : List α} {s : S} {P Q : S → Prop} (h : Ok (f x s) P) (k : ∀ s', P s' → Ok (forS xs s' f) Q) : Ok (forS (x :: xs) s f) Q := Ok.bind h k
abbrev P2 := Int × Int
abbrev St2 := P2 × Option P2
/-- one axis: what the line's start, its stop become; none: never -/
def axis (step lo hi : Int) (s : St2) : Option St2 :=
  if step = 0 then (if 0 < lo ∨ hi < 0 then none else some s) else
  if (if 0 < step then hi else -lo) ≤ 0 then none else
  some (if s.1.1 * absI step < (if 0 < step then lo else -hi) * s.1.2 then ((if 0 < step then lo else -hi), absI step) else s.1,
    match s.2 with
    | none => some ((if 0 < step then hi else -lo), absI step)
    | some q => if (if 0 < step then hi else -lo) * q.2 < q.1 * absI step then some ((if 0 < step then hi else -lo), absI step) else some q)
def fin2 (s : St2) : Option P2 := match s.2 with
  | none => none
  | some q => if q.1 * s.1.2 < s.1.1 * q.2 then none else some s.1
def ent (b : IB) (u v : Int) : Option P2 := (axis u b.1 b.2.2.1 ((0, 1), none)).bind fun s => (axis v b.2.1 b.2.2.2 s).bind fin2
/-- bounds of a state -/
def SB (s : St2) : Prop := (B100 s.1.1 ∧ B100 s.1.2) ∧ 0 < s.1.2 ∧ ∀ q, s.2 = some q → (B100 q.1 ∧ B100 q.2) ∧ 0 < q.2
theorem absI_pos {x : Int} (h : x ≠ 0) : 0 < absI x := by unfold absI; split <;> omega
theorem absI_b {x : Int} (h : B100 x) : B100 (absI x) := by rw [absI_nat]; show _ < _; simpa using h
theorem neg_b {x : Int} (h : B100 x) : B100 (-x) := by show (-x).natAbs < _; rw [Int.natAbs_neg]; exact h
theorem ite_b {c : Prop} [Decidable c] {x y : Int} (hx : B100 x) (hy : B100 y) : B100 (if c then x else y) := by split <;> assumption
theorem axis_SB {step lo hi : Int} {s s' : St2} (h1 : B100 step) (h2 : B100 lo) (h3 : B100 hi) (hs : SB s) (e : axis step lo hi s = some s') : SB s' ∧ (step ≠ 0 → s'.2 ≠ none) ∧ (s.2 ≠ none → s'.2 ≠ none) := by
  unfold axis at e
  by_cases h0 : step = 0
  · rw [if_pos h0] at e
    split at e
    · cases e
    · cases e; exact ⟨hs, fun q => absurd h0 q, fun q => q⟩
  · rw [if_neg h0] at e
    have p := absI_pos h0
    have b1 := absI_b h1
    have b2 : B100 (if 0 < step then lo else -hi) := ite_b h2 (neg_b h3)
    have b3 : B100 (if 0 < step then hi else -lo) := ite_b h3 (neg_b h2)
    generalize (if 0 < step then lo else -hi) = i at *
    generalize (if 0 < step then hi else -lo) = o at *
    generalize absI step = len at *
    by_cases hc : o ≤ 0
    · rw [if_pos hc] at e; cases e
    rw [if_neg hc] at e
    obtain ⟨s1, s2⟩ := s
    have c1 : ∀ w : P2, (B100 (if s1.1 * len < i * s1.2 then (i, len) else s1 : P2).1 ∧ B100 (if s1.1 * len < i * s1.2 then (i, len) else s1 : P2).2) ∧ 0 < (if s1.1 * len < i * s1.2 then (i, len) else s1 : P2).2 ∧ ∀ q : P2, some w = some q → (B100 w.1 ∧ B100 w.2) ∧ 0 < w.2 → (B100 q.1 ∧ B100 q.2) ∧ 0 < q.2 := fun w => by
      refine ⟨?_, ?_, fun q e h => by cases e; exact h⟩
      · split
        · exact ⟨b2, b1⟩
        · exact hs.1
      · split
        · exact p
        · exact hs.2.1
    cases s2 with
    | none =>
      cases e
      obtain ⟨x1, x2, x3⟩ := c1 (o, len)
      exact ⟨⟨x1, x2, fun q h => x3 q h ⟨⟨b3, b1⟩, p⟩⟩, (fun _ z => by cases z), fun _ z => by cases z⟩
    | some r =>
      have hr := hs.2.2 r rfl
      by_cases d : o * r.2 < r.1 * len
      · dsimp only at e
        rw [if_pos d] at e
        cases e
        obtain ⟨x1, x2, x3⟩ := c1 (o, len)
        exact ⟨⟨x1, x2, fun q h => x3 q h ⟨⟨b3, b1⟩, p⟩⟩, (fun _ z => by cases z), fun _ z => by cases z⟩
      · dsimp only at e
        rw [if_neg d] at e
        cases e
        obtain ⟨x1, x2, x3⟩ := c1 r
        exact ⟨⟨x1, x2, fun q h => x3 q h hr⟩, (fun _ z => by cases z), fun _ z => by cases z⟩
theorem sooner_eq {p q : P2} (h1 : B100 p.1) (h2 : B100 p.2) (h3 : B100 q.1) (h4 : B100 q.2) : m_is_sooner p q = some (decide (p.1 * q.2 < q.1 * p.2)) := by
  unfold m_is_sooner
  rw [mulR_s (b100_250 h1) (b100_250 h4), mulR_s (b100_250 h3) (b100_250 h2)]; rfl
theorem cond_ite {α : Type} {c : Prop} [Decidable c] {x y : α} : cond (decide c) x y = if c then x else y := by
  by_cases h : c
  · rw [if_pos h, show decide c = true from decide_eq_true h]; rfl
  · rw [if_neg h, show decide c = false from decide_eq_false h]; rfl
section
variable {u v : Int} {b : IB}
def entF (x3 : Int × Int × Int) (s2 : St2) : Option (Fl St2 (Option P2)) :=
  cond (decide (x3.1 = (0 : Int))) (cond ((decide ((0 : Int) < x3.2.1)) || (decide (x3.2.2 < (0 : Int)))) (some (.rt none)) (some (.ct (s2.1, s2.2)))) (lt (absI x3.1) fun length_4 =>
 cond (decide ((cond (decide ((0 : Int) < x3.1)) (x3.2.1, x3.2.2) ((-x3.2.2), (-x3.2.1))).2 ≤ (0 : Int))) (some (.rt none)) ((m_is_sooner s2.1 ((cond (decide ((0 : Int) < x3.1)) (x3.2.1, x3.2.2) ((-x3.2.2), (-x3.2.1))).1, length_4) >>= fun v6 =>
 cond v6 (lt ((cond (decide ((0 : Int) < x3.1)) (x3.2.1, x3.2.2) ((-x3.2.2), (-x3.2.1))).1, length_4) fun start_7 =>
 some start_7) (some s2.1)) >>= fun s5 =>
 ((cond s2.2.isNone (some true) (s2.2 >>= fun v9 =>
 m_is_sooner ((cond (decide ((0 : Int) < x3.1)) (x3.2.1, x3.2.2) ((-x3.2.2), (-x3.2.1))).2, length_4) v9 >>= fun v10 =>
 some v10)) >>= fun c11 =>
 cond c11 (lt (some ((cond (decide ((0 : Int) < x3.1)) (x3.2.1, x3.2.2) ((-x3.2.2), (-x3.2.1))).2, length_4)) fun stop_12 =>
 some stop_12) (some s2.2)) >>= fun s8 =>
 some (.nx (s5, s8))))
theorem entF_eq {step lo hi : Int} {s : St2} (h1 : B100 step) (h2 : B100 lo) (h3 : B100 hi) (hs : SB s) :
    entF (step, lo, hi) s = some (match axis step lo hi s with | none => .rt none | some s' => if step = 0 then .ct s' else .nx s') := by
  unfold entF axis
  dsimp only
  by_cases h0 : step = 0
  · subst h0
    rw [if_pos rfl, show decide ((0 : Int) = 0) = true from rfl, cond_true]
    by_cases c : 0 < lo ∨ hi < 0
    · rw [if_pos c, show (decide (0 < lo) || decide (hi < 0)) = true by simpa using c]; rfl
    · rw [if_neg c, show (decide (0 < lo) || decide (hi < 0)) = false by simpa using c]
      show _ = some (if (0 : Int) = 0 then Fl.ct s else Fl.nx s)
      rw [if_pos rfl]; rfl
  · have b1 := absI_b h1
    have b2 : B100 (if 0 < step then lo else -hi) := ite_b h2 (neg_b h3)
    have b3 : B100 (if 0 < step then hi else -lo) := ite_b h3 (neg_b h2)
    have e1 : (cond (decide ((0 : Int) < step)) (lo, hi) ((-hi), (-lo))).1 = if 0 < step then lo else -hi := by rw [cond_ite]; split <;> rfl
    have e2 : (cond (decide ((0 : Int) < step)) (lo, hi) ((-hi), (-lo))).2 = if 0 < step then hi else -lo := by rw [cond_ite]; split <;> rfl
    rw [e1, e2, if_neg h0, show decide (step = 0) = false from decide_eq_false h0, cond_false]
    unfold lt
    dsimp only
    generalize (if 0 < step then lo else -hi) = i at *
    generalize (if 0 < step then hi else -lo) = o at *
    generalize absI step = len at *
    by_cases c : o ≤ 0
    · rw [if_pos c, show decide (o ≤ 0) = true from decide_eq_true c]; rfl
    · rw [if_neg c, show decide (o ≤ 0) = false from decide_eq_false c, cond_false]
      rw [sooner_eq hs.1.1 hs.1.2 b2 b1, obind_some, cond_ite]
      obtain ⟨s1, s2⟩ := s
      have key : ∀ w : P2, ((if s1.1 * len < i * s1.2 then some (i, len) else some s1 : Option P2) >>= fun s5 => some (Fl.nx (s5, some w) : Fl St2 (Option P2))) = some (.nx (if s1.1 * len < i * s1.2 then (i, len) else s1, some w)) := fun w => by split <;> rfl
      cases s2 with
      | none =>
        show ((if s1.1 * len < i * s1.2 then some (i, len) else some s1 : Option P2) >>= fun s5 => some (Fl.nx (s5, some (o, len)) : Fl St2 (Option P2))) = _
        rw [key]
        show _ = some (if step = 0 then Fl.ct (if s1.1 * len < i * s1.2 then (i, len) else s1, some (o, len)) else Fl.nx (if s1.1 * len < i * s1.2 then (i, len) else s1, some (o, len)))
        rw [if_neg h0]
      | some q =>
        obtain ⟨⟨q1, q2⟩, q3⟩ := hs.2.2 q rfl
        show ((if s1.1 * len < i * s1.2 then some (i, len) else some s1 : Option P2) >>= fun s5 => (((m_is_sooner (o, len) q >>= fun v10 => some v10) >>= fun c11 => cond c11 (some (some (o, len))) (some (some q))) >>= fun s8 => some (Fl.nx (s5, s8) : Fl St2 (Option P2)))) = _
        rw [sooner_eq b3 b1 q1 q2]
        show ((if s1.1 * len < i * s1.2 then some (i, len) else some s1 : Option P2) >>= fun s5 => ((cond (decide (o * q.2 < q.1 * len)) (some (some (o, len))) (some (some q))) >>= fun s8 => some (Fl.nx (s5, s8) : Fl St2 (Option P2)))) = _
        rw [cond_ite]
        by_cases d : o * q.2 < q.1 * len
        · rw [if_pos d]
          dsimp only
          rw [if_pos d, if_neg h0]
          exact key _
        · rw [if_neg d]
          dsimp only
          rw [if_neg d, if_neg h0]
          exact key _
theorem forF_next {α S ρ : Type} {f : α → S → Option (Fl S ρ)} {x : α} {xs : List α} {s s' : S} {o : Fl S ρ} (h : f x s = some o) (ho : o = .nx s' ∨ o = .ct s') : forF (x :: xs) s f = forF xs s' f := by
  rw [forF, h]; rcases ho with rfl | rfl <;> rfl
theorem forF_ret {α S ρ : Type} {f : α → S → Option (Fl S ρ)} {x : α} {xs : List α} {s : S} {r : ρ} (h : f x s = some (.rt r)) : forF (x :: xs) s f = some (.rt r) := by
  rw [forF, h]; rfl
theorem start_SB : SB ((0, 1), none) := ⟨⟨by show (0 : Int).natAbs < _; decide, by show (1 : Int).natAbs < _; decide⟩, by show (0 : Int) < 1; decide, fun q h => nomatch h⟩
theorem entry_eq (hb : BdB b) (hu : B100 u) (hv : B100 v) (h0 : u ≠ 0 ∨ v ≠ 0) : m_entry b (u, v) = some (ent b u v) := by
  obtain ⟨b1, b2, b3, b4⟩ := hb
  unfold m_entry lt
  show ((forF [(u, b.1, b.2.2.1), (v, b.2.1, b.2.2.2)] (((0 : Int), (1 : Int)), none) entF : Option (Fl St2 (Option P2))) >>= _) = _
  have f1 := entF_eq hu b1 b3 start_SB
  unfold ent
  cases e1 : axis u b.1 b.2.2.1 ((0, 1), none) with
  | none => rw [e1] at f1; rw [forF_ret f1]; rfl
  | some s =>
    obtain ⟨s1, s2, s3⟩ := axis_SB hu b1 b3 start_SB e1
    rw [e1] at f1
    rw [forF_next (s' := s) f1 (by dsimp only; split; exact .inr rfl; exact .inl rfl)]
    have f2 := entF_eq hv b2 b4 s1
    show _ = some ((axis v b.2.1 b.2.2.2 s).bind fin2)
    cases e2 : axis v b.2.1 b.2.2.2 s with
    | none => rw [e2] at f2; rw [forF_ret f2]; rfl
    | some s' =>
      obtain ⟨t1, t2, t3⟩ := axis_SB hv b2 b4 s1 e2
      rw [e2] at f2
      rw [forF_next (s' := s') f2 (by dsimp only; split; exact .inr rfl; exact .inl rfl), forF, obind_some]
      dsimp only
      have nn : s'.2 ≠ none := by
        rcases h0 with h | h
        · exact t3 (s2 h)
        · exact t2 h
      obtain ⟨p, q⟩ := s'
      cases q with
      | none => exact absurd rfl nn
      | some q =>
        obtain ⟨⟨q1, q2⟩, q3⟩ := t1.2.2 q rfl
        show (m_is_sooner q p >>= fun v14 => cond v14 (some none) (some (some p))) = some (fin2 (p, some q))
        rw [sooner_eq q1 q2 t1.1.1 t1.1.2, obind_some, cond_ite]
        unfold fin2
        dsimp only
        split <;> rfl
/-- seen from (x, y) -/
def rel (b : IB) (x y : Int) : IB := (b.1 - x, b.2.1 - y, b.2.2.1 - x, b.2.2.2 - y)
def metF (x3 : Int × Int × Int × Int) (s2 : St2) : Option (Fl St2 (Option P2)) := (cond (decide (x3.2.1 = (0 : Int))) (cond ((decide (x3.1 < x3.2.2.1)) || (decide (x3.2.2.2 < x3.1))) (some (.rt none)) (some (.nx (s2.1, s2.2)))) (lt (cond (decide ((0 : Int) < x3.2.1)) ((x3.2.2.1 - x3.1), x3.2.1) ((x3.1 - x3.2.2.2), ((0 : Int) - x3.2.1))) fun first_5 =>
 lt (cond (decide ((0 : Int) < x3.2.1)) ((x3.2.2.2 - x3.1), x3.2.1) ((x3.1 - x3.2.2.1), ((0 : Int) - x3.2.1))) fun last_6 =>
 cond (decide (last_6.1 ≤ (0 : Int))) (some (.rt none)) ((mulR s2.1.1 first_5.2 >>= fun v8 =>
 mulR first_5.1 s2.1.2 >>= fun v9 =>
 cond (decide (v8 < v9)) (some first_5) (some s2.1)) >>= fun s7 =>
 ((cond s2.2.isNone (some true) (s2.2 >>= fun v11 =>
 mulR last_6.1 v11.2 >>= fun v12 =>
 s2.2 >>= fun v13 =>
 mulR v13.1 last_6.2 >>= fun v14 =>
 some (decide (v12 < v14)))) >>= fun c15 =>
 cond c15 (some (some last_6)) (some s2.2)) >>= fun s10 =>
 some (.nx (s7, s10)))) : Option (Fl ((Int × Int) × (Option (Int × Int))) (Option (Int × Int)))) >>= (fun o => match o with
 | .nx s4 => some (.nx (s4.1, s4.2))
 | .rt x => some (.rt x)
 | .bk _ => none
 | .ct _ => none)
theorem metF_eq {at' step near far : Int} {s : St2} (h1 : B100 step) (h2 : B100 (near - at')) (h3 : B100 (far - at')) (hs : SB s) :
    metF (at', step, near, far) s = some (match axis step (near - at') (far - at') s with | none => .rt none | some s' => .nx s') := by
  unfold metF axis
  dsimp only
  have n1 : at' - far = -(far - at') := by omega
  have n2 : at' - near = -(near - at') := by omega
  by_cases h0 : step = 0
  · subst h0
    rw [if_pos rfl, show decide ((0 : Int) = 0) = true from rfl, cond_true]
    by_cases c : 0 < near - at' ∨ far - at' < 0
    · rw [if_pos c, show (decide (at' < near) || decide (far < at')) = true by simp only [Bool.or_eq_true, decide_eq_true_eq]; omega]; rfl
    · rw [if_neg c, show (decide (at' < near) || decide (far < at')) = false by simp only [Bool.or_eq_false_iff, decide_eq_false_iff_not]; omega]; rfl
  · have b1 := absI_b h1
    have b2 : B100 (if 0 < step then near - at' else -(far - at')) := ite_b h2 (neg_b h3)
    have b3 : B100 (if 0 < step then far - at' else -(near - at')) := ite_b h3 (neg_b h2)
    have e1 : (cond (decide ((0 : Int) < step)) ((near - at'), step) ((at' - far), ((0 : Int) - step))) = (if 0 < step then near - at' else -(far - at'), absI step) := by
      rw [cond_ite, n1]; unfold absI; split
      · rw [if_neg (by omega)]
      · rw [if_pos (by omega), Int.zero_sub]
    have e2 : (cond (decide ((0 : Int) < step)) ((far - at'), step) ((at' - near), ((0 : Int) - step))) = (if 0 < step then far - at' else -(near - at'), absI step) := by
      rw [cond_ite, n2]; unfold absI; split
      · rw [if_neg (by omega)]
      · rw [if_pos (by omega), Int.zero_sub]
    rw [e1, e2, if_neg h0, show decide (step = 0) = false from decide_eq_false h0, cond_false]
    unfold lt
    dsimp only
    generalize (if 0 < step then near - at' else -(far - at')) = i at *
    generalize (if 0 < step then far - at' else -(near - at')) = o at *
    generalize absI step = len at *
    by_cases c : o ≤ 0
    · rw [if_pos c, show decide (o ≤ 0) = true from decide_eq_true c]; rfl
    · rw [if_neg c, show decide (o ≤ 0) = false from decide_eq_false c, cond_false]
      rw [mulR_s (b100_250 hs.1.1) (b100_250 b1), mulR_s (b100_250 b2) (b100_250 hs.1.2), obind_some, obind_some, cond_ite]
      obtain ⟨s1, s2⟩ := s
      have key : ∀ w : P2, (((if s1.1 * len < i * s1.2 then some (i, len) else some s1 : Option P2) >>= fun s5 => some (Fl.nx (s5, some w) : Fl St2 (Option P2))) >>= (fun o => match o with
        | .nx s4 => some (Fl.nx (s4.1, s4.2))
        | .rt x => some (.rt x)
        | .bk _ => none
        | .ct _ => none)) = some (.nx (if s1.1 * len < i * s1.2 then (i, len) else s1, some w)) := fun w => by split <;> rfl
      cases s2 with
      | none => exact key _
      | some q =>
        obtain ⟨⟨q1, q2⟩, q3⟩ := hs.2.2 q rfl
        show (((if s1.1 * len < i * s1.2 then some (i, len) else some s1 : Option P2) >>= fun s5 => ((mulR o q.2 >>= fun v12 => mulR q.1 len >>= fun v14 => some (decide (v12 < v14))) >>= fun c11 => cond c11 (some (some (o, len))) (some (some q))) >>= fun s8 => some (Fl.nx (s5, s8) : Fl St2 (Option P2))) >>= _) = _
        rw [mulR_s (b100_250 b3) (b100_250 q2), mulR_s (b100_250 q1) (b100_250 b1)]
        show (((if s1.1 * len < i * s1.2 then some (i, len) else some s1 : Option P2) >>= fun s5 => ((cond (decide (o * q.2 < q.1 * len)) (some (some (o, len))) (some (some q))) >>= fun s8 => some (Fl.nx (s5, s8) : Fl St2 (Option P2)))) >>= _) = _
        rw [cond_ite]
        by_cases d : o * q.2 < q.1 * len
        · rw [if_pos d]
          dsimp only
          rw [if_pos d]
          exact key _
        · rw [if_neg d]
          dsimp only
          rw [if_neg d]
          exact key _
theorem met_box_eq {x y : Int} (hb : BdB (rel b x y)) (hu : B100 u) (hv : B100 v) (h0 : u ≠ 0 ∨ v ≠ 0) : m_law_met_box b x y u v = some (ent (rel b x y) u v) := by
  obtain ⟨b1, b2, b3, b4⟩ := hb
  unfold m_law_met_box lt
  show ((forF [(x, u, b.1, b.2.2.1), (y, v, b.2.1, b.2.2.2)] (((0 : Int), (1 : Int)), none) metF : Option (Fl St2 (Option P2))) >>= _) = _
  rw [forF, metF_eq hu b1 b3 start_SB]
  unfold ent
  show _ = some ((axis u (b.1 - x) (b.2.2.1 - x) ((0, 1), none)).bind fun s => (axis v (b.2.1 - y) (b.2.2.2 - y) s).bind fin2)
  cases e1 : axis u (b.1 - x) (b.2.2.1 - x) ((0, 1), none) with
  | none => rfl
  | some s =>
    obtain ⟨s1, s2, s3⟩ := axis_SB hu b1 b3 start_SB e1
    rw [obind_some]
    dsimp only
    rw [forF, metF_eq hv b2 b4 s1]
    show _ = some ((axis v (b.2.1 - y) (b.2.2.2 - y) s).bind fin2)
    cases e2 : axis v (b.2.1 - y) (b.2.2.2 - y) s with
    | none => rfl
    | some s' =>
      obtain ⟨t1, t2, t3⟩ := axis_SB hv b2 b4 s1 e2
      rw [obind_some]
      show (forF [] s' metF >>= _) = _
      rw [forF, obind_some]
      dsimp only
      have nn : s'.2 ≠ none := by
        rcases h0 with h | h
        · exact t3 (s2 h)
        · exact t2 h
      obtain ⟨p, q⟩ := s'
      cases q with
      | none => exact absurd rfl nn
      | some q =>
        obtain ⟨⟨q1, q2⟩, q3⟩ := t1.2.2 q rfl
        show (mulR q.1 p.2 >>= fun v17 => mulR p.1 q.2 >>= fun v19 => cond (decide (v17 < v19)) (some none) (some (some p))) = some (fin2 (p, some q))
        rw [mulR_s (b100_250 q1) (b100_250 t1.1.2), mulR_s (b100_250 t1.1.1) (b100_250 q2), obind_some, obind_some, cond_ite]
        unfold fin2
        dsimp only
        split <;> rfl
/-- what an entry is bounded by -/
theorem ent_SB (hb : BdB b) (hu : B100 u) (hv : B100 v) {p : P2} (e : ent b u v = some p) : (B100 p.1 ∧ B100 p.2) ∧ 0 < p.2 := by
  obtain ⟨b1, b2, b3, b4⟩ := hb
  unfold ent at e
  cases e1 : axis u b.1 b.2.2.1 ((0, 1), none) with
  | none => rw [e1] at e; cases e
  | some s =>
    rw [e1] at e
    obtain ⟨s1, _⟩ := axis_SB hu b1 b3 start_SB e1
    have e : (axis v b.2.1 b.2.2.2 s).bind fin2 = some p := e
    cases e2 : axis v b.2.1 b.2.2.2 s with
    | none => rw [e2] at e; cases e
    | some s' =>
      rw [e2] at e
      obtain ⟨t1, _⟩ := axis_SB hv b2 b4 s1 e2
      have e : fin2 s' = some p := e
      unfold fin2 at e
      split at e
      · cases e
      · split at e
        · cases e
        · cases e; exact ⟨t1.1, t1.2.1⟩
end
/-! ### as many times as great -/
def scP (k : Int) (p : P2) : P2 := (k * p.1, p.2)
def scS (k : Int) (s : St2) : St2 := (scP k s.1, s.2.map (scP k))
def scB (k : Int) (b : IB) : IB := (k * b.1, k * b.2.1, k * b.2.2.1, k * b.2.2.2)
section
variable {k : Int}
theorem mul_lt_iff (hk : 0 < k) {a b : Int} : k * a < k * b ↔ a < b := ⟨fun h => Int.lt_of_mul_lt_mul_left h (by omega), fun h => Int.mul_lt_mul_of_pos_left h hk⟩
theorem axis_sc (hk : 0 < k) {step lo hi : Int} {s : St2} : axis step (k * lo) (k * hi) (scS k s) = (axis step lo hi s).map (scS k) := by
  unfold axis
  by_cases h0 : step = 0
  · rw [if_pos h0, if_pos h0]
    have : (0 < k * lo ∨ k * hi < 0) ↔ (0 < lo ∨ hi < 0) := by
      have a : 0 < k * lo ↔ 0 < lo := by rw [← Int.mul_zero k, mul_lt_iff hk, Int.mul_zero]
      have b : k * hi < 0 ↔ hi < 0 := by rw [← Int.mul_zero k, mul_lt_iff hk, Int.mul_zero]
      rw [a, b]
    by_cases c : 0 < lo ∨ hi < 0
    · rw [if_pos c, if_pos (this.mpr c)]; rfl
    · rw [if_neg c, if_neg (fun z => c (this.mp z))]; rfl
  · rw [if_neg h0, if_neg h0]
    have e1 : (if 0 < step then k * lo else -(k * hi)) = k * (if 0 < step then lo else -hi) := by split; rfl; rw [Int.mul_neg]
    have e2 : (if 0 < step then k * hi else -(k * lo)) = k * (if 0 < step then hi else -lo) := by split; rfl; rw [Int.mul_neg]
    rw [e1, e2]
    generalize (if 0 < step then lo else -hi) = i
    generalize (if 0 < step then hi else -lo) = o
    generalize absI step = len
    have z : k * o ≤ 0 ↔ o ≤ 0 := by
      constructor
      · intro h; refine Int.not_lt.mp fun q => ?_
        have := Int.mul_pos hk q; omega
      · intro h; exact Int.mul_nonpos_of_nonneg_of_nonpos (by omega) h
    by_cases c : o ≤ 0
    · rw [if_pos c, if_pos (z.mpr c)]; rfl
    · rw [if_neg c, if_neg (fun q => c (z.mp q))]
      show some (_, _) = some (scS k _)
      congr 1
      obtain ⟨s1, s2⟩ := s
      have l1 : (scP k s1).1 * len < k * i * (scP k s1).2 ↔ s1.1 * len < i * s1.2 := by
        show k * s1.1 * len < k * i * s1.2 ↔ _
        rw [Int.mul_assoc, Int.mul_assoc, mul_lt_iff hk]
      refine Prod.ext ?_ ?_
      · show (if (scP k s1).1 * len < k * i * (scP k s1).2 then (k * i, len) else scP k s1) = scP k (if s1.1 * len < i * s1.2 then (i, len) else s1)
        by_cases d : s1.1 * len < i * s1.2
        · rw [if_pos d, if_pos (l1.mpr d)]; rfl
        · rw [if_neg d, if_neg (fun q => d (l1.mp q))]
      · cases s2 with
        | none => rfl
        | some q =>
          have l2 : k * o * (scP k q).2 < (scP k q).1 * len ↔ o * q.2 < q.1 * len := by
            show k * o * q.2 < k * q.1 * len ↔ _
            rw [Int.mul_assoc, Int.mul_assoc, mul_lt_iff hk]
          show (if k * o * (scP k q).2 < (scP k q).1 * len then some (k * o, len) else some (scP k q)) = Option.map (scP k) (if o * q.2 < q.1 * len then some (o, len) else some q)
          by_cases d : o * q.2 < q.1 * len
          · rw [if_pos d, if_pos (l2.mpr d)]; rfl
          · rw [if_neg d, if_neg (fun q => d (l2.mp q))]; rfl
theorem fin2_sc (hk : 0 < k) {s : St2} : fin2 (scS k s) = (fin2 s).map (scP k) := by
  obtain ⟨s1, s2⟩ := s
  cases s2 with
  | none => rfl
  | some q =>
    show (if (scP k q).1 * (scP k s1).2 < (scP k s1).1 * (scP k q).2 then none else some (scP k s1)) = Option.map (scP k) (if q.1 * s1.2 < s1.1 * q.2 then none else some s1)
    have l : (scP k q).1 * (scP k s1).2 < (scP k s1).1 * (scP k q).2 ↔ q.1 * s1.2 < s1.1 * q.2 := by
      show k * q.1 * s1.2 < k * s1.1 * q.2 ↔ _
      rw [Int.mul_assoc, Int.mul_assoc, mul_lt_iff hk]
    by_cases d : q.1 * s1.2 < s1.1 * q.2
    · rw [if_pos d, if_pos (l.mpr d)]; rfl
    · rw [if_neg d, if_neg (fun q => d (l.mp q))]; rfl
theorem ent_sc (hk : 0 < k) (b : IB) (u v : Int) : ent (scB k b) u v = (ent b u v).map (scP k) := by
  unfold ent scB
  dsimp only
  have s0 : scS k ((0, 1), none) = ((0, 1), none) := by unfold scS scP; simp
  rw [show axis u (k * b.1) (k * b.2.2.1) ((0, 1), none) = (axis u b.1 b.2.2.1 ((0, 1), none)).map (scS k) by rw [← axis_sc hk, s0]]
  cases axis u b.1 b.2.2.1 ((0, 1), none) with
  | none => rfl
  | some s =>
    show (axis v (k * b.2.1) (k * b.2.2.2) (scS k s)).bind fin2 = Option.map (scP k) ((axis v b.2.1 b.2.2.2 s).bind fin2)
    rw [axis_sc hk]
    cases axis v b.2.1 b.2.2.2 s with
    | none => rfl
    | some s' => exact fin2_sc hk
end
/-! ### the first of some -/
def better (t s : Option P2) : Option P2 := match t, s with
  | none, s => s
  | some p, none => some p
  | some p, some q => if p.1 * q.2 < q.1 * p.2 then some p else some q
def firstT (ts : List (Option P2)) : Option P2 := ts.foldl (fun s t => better t s) none
def lessP (p q : P2) : Prop := p.1 * q.2 < q.1 * p.2
instance (p q : P2) : Decidable (lessP p q) := inferInstanceAs (Decidable (_ < _))
theorem lessP_trans {p q r : P2} (hp : 0 < p.2) (hq : 0 < q.2) (hr : 0 < r.2) (h1 : ¬ lessP q p) (h2 : lessP q r) : lessP p r := by
  unfold lessP at *
  refine Int.lt_of_mul_lt_mul_right (a := q.2) ?_ (by omega)
  have a : p.1 * q.2 ≤ q.1 * p.2 := by omega
  have b := Int.mul_le_mul_of_nonneg_right a (show 0 ≤ r.2 by omega)
  have c := Int.mul_lt_mul_of_pos_right h2 hp
  have e1 : p.1 * r.2 * q.2 = p.1 * q.2 * r.2 := by grind
  have e2 : r.1 * p.2 * q.2 = r.1 * q.2 * p.2 := by grind
  have e3 : q.1 * p.2 * r.2 = q.1 * r.2 * p.2 := by grind
  omega
theorem lessP_irrefl (p : P2) : ¬ lessP p p := by unfold lessP; omega
/-- the first: one of them, none is before it -/
theorem foldl_better : ∀ (ts : List (Option P2)) (s : Option P2), (∀ p, s = some p → 0 < p.2) → (∀ t ∈ ts, ∀ p, t = some p → 0 < p.2) →
    (ts.foldl (fun s t => better t s) s = none → s = none ∧ ∀ t ∈ ts, t = none) ∧
    (∀ r, ts.foldl (fun s t => better t s) s = some r → 0 < r.2 ∧ (s = some r ∨ some r ∈ ts) ∧ (∀ p, s = some p → ¬ lessP p r) ∧ ∀ t ∈ ts, ∀ p, t = some p → ¬ lessP p r)
  | [], s, hs, _ => ⟨fun h => ⟨h, fun _ h => nomatch h⟩, fun r h => ⟨hs r h, .inl h, fun p e => by have h : s = some r := h; rw [h] at e; cases e; exact lessP_irrefl _, fun _ h => nomatch h⟩⟩
  | t :: ts, s, hs, ht => by
    have hb : ∀ p, better t s = some p → 0 < p.2 := fun p e => by
      cases t with
      | none => exact hs p e
      | some q => cases s with
        | none => cases e; exact ht _ (List.mem_cons_self ..) _ rfl
        | some w =>
          have e : (if q.1 * w.2 < w.1 * q.2 then some q else some w) = some p := e
          split at e
          · cases e; exact ht _ (List.mem_cons_self ..) _ rfl
          · cases e; exact hs _ rfl
    obtain ⟨i1, i2⟩ := foldl_better ts (better t s) hb fun t' h => ht t' (List.mem_cons_of_mem _ h)
    refine ⟨fun h => ?_, fun r h => ?_⟩
    · obtain ⟨a, b⟩ := i1 h
      cases t with
      | none => exact ⟨a, fun t' h' => by rcases List.mem_cons.mp h' with rfl | h'; rfl; exact b t' h'⟩
      | some q => cases s with
        | none => cases a
        | some w =>
          have a : (if q.1 * w.2 < w.1 * q.2 then some q else some w) = none := a
          split at a <;> cases a
    · obtain ⟨a, b, c, d⟩ := i2 r h
      cases t with
      | none => exact ⟨a, b.imp id (List.mem_cons_of_mem _), c, fun t' h' p e => by
          rcases List.mem_cons.mp h' with rfl | h'
          · cases e
          · exact d t' h' p e⟩
      | some q => cases s with
        | none =>
          refine ⟨a, .inr ?_, fun p e => (nomatch e), fun t' h' p e => ?_⟩
          · rcases b with b | b
            · have b : some q = some r := b
              rw [← b]; exact List.mem_cons_self ..
            · exact List.mem_cons_of_mem _ b
          · rcases List.mem_cons.mp h' with rfl | h'
            · cases e; exact c _ rfl
            · exact d t' h' p e
        | some w =>
          have hw := hs w rfl
          have hq := ht _ (List.mem_cons_self ..) q rfl
          by_cases l : q.1 * w.2 < w.1 * q.2
          · have eb : better (some q) (some w) = some q := if_pos l
            rw [eb] at b c
            refine ⟨a, ?_, fun p e => ?_, fun t' h' p e => ?_⟩
            · rcases b with b | b
              · rw [← b]; exact .inr (List.mem_cons_self ..)
              · exact .inr (List.mem_cons_of_mem _ b)
            · cases e
              intro z
              exact c q rfl (lessP_trans hq hw a (fun y => by unfold lessP at y; omega) z)
            · rcases List.mem_cons.mp h' with rfl | h'
              · cases e; exact c _ rfl
              · exact d t' h' p e
          · have eb : better (some q) (some w) = some w := if_neg l
            rw [eb] at b c
            refine ⟨a, b.imp id (List.mem_cons_of_mem _), c, fun t' h' p e => ?_⟩
            rcases List.mem_cons.mp h' with rfl | h'
            · cases e
              intro z
              exact c w rfl (lessP_trans hw hq a l z)
            · exact d t' h' p e
theorem firstT_none {ts : List (Option P2)} (h : ∀ t ∈ ts, ∀ p, t = some p → 0 < p.2) (e : firstT ts = none) : ∀ t ∈ ts, t = none := ((foldl_better ts none (fun _ h => nomatch h) h).1 e).2
theorem firstT_some {ts : List (Option P2)} (h : ∀ t ∈ ts, ∀ p, t = some p → 0 < p.2) {r : P2} (e : firstT ts = some r) : 0 < r.2 ∧ some r ∈ ts ∧ ∀ t ∈ ts, ∀ p, t = some p → ¬ lessP p r := by
  obtain ⟨a, b, _, d⟩ := (foldl_better ts none (fun _ h => nomatch h) h).2 r e
  exact ⟨a, b.resolve_left (fun h => nomatch h), d⟩
theorem better_sc {k : Int} (hk : 0 < k) (t s : Option P2) : better (t.map (scP k)) (s.map (scP k)) = (better t s).map (scP k) := by
  cases t with
  | none => rfl
  | some p => cases s with
    | none => rfl
    | some q =>
      show (if k * p.1 * q.2 < k * q.1 * p.2 then some (scP k p) else some (scP k q)) = Option.map (scP k) (if p.1 * q.2 < q.1 * p.2 then some p else some q)
      have l : k * p.1 * q.2 < k * q.1 * p.2 ↔ p.1 * q.2 < q.1 * p.2 := by rw [Int.mul_assoc, Int.mul_assoc, mul_lt_iff hk]
      by_cases d : p.1 * q.2 < q.1 * p.2
      · rw [if_pos d, if_pos (l.mpr d)]; rfl
      · rw [if_neg d, if_neg (fun q => d (l.mp q))]; rfl
theorem firstT_sc {k : Int} (hk : 0 < k) (ts : List (Option P2)) : firstT (ts.map (Option.map (scP k))) = (firstT ts).map (scP k) := by
  unfold firstT
  have : ∀ (ts : List (Option P2)) (s : Option P2), (ts.map (Option.map (scP k))).foldl (fun s t => better t s) (s.map (scP k)) = (ts.foldl (fun s t => better t s) s).map (scP k) := by
    intro ts
    induction ts with
    | nil => intro s; rfl
    | cons t ts ih => intro s; show List.foldl _ (better (t.map (scP k)) (s.map (scP k))) _ = _; rw [better_sc hk]; exact ih _
  exact this ts none
/-- goes in all the turns of a loop -/
def OB (o : Option P2) : Prop := ∀ p, o = some p → (B100 p.1 ∧ B100 p.2) ∧ 0 < p.2
theorem better_OB {t s : Option P2} (ht : OB t) (hs : OB s) : OB (better t s) := by
  intro p e
  cases t with
  | none => exact hs p e
  | some q => cases s with
    | none => cases e; exact ht _ rfl
    | some w =>
      have e : (if q.1 * w.2 < w.1 * q.2 then some q else some w) = some p := e
      split at e
      · cases e; exact ht _ rfl
      · cases e; exact hs _ rfl
theorem firstT_OB {ts : List (Option P2)} (h : ∀ t ∈ ts, OB t) : OB (firstT ts) := by
  unfold firstT
  have : ∀ (ts : List (Option P2)) (s : Option P2), (∀ t ∈ ts, OB t) → OB s → OB (ts.foldl (fun s t => better t s) s) := by
    intro ts
    induction ts with
    | nil => intro s _ hs; exact hs
    | cons t ts ih => intro s h hs; exact ih _ (fun t' h' => h t' (List.mem_cons_of_mem _ h')) (better_OB (h t (List.mem_cons_self ..)) hs)
  exact this ts none h fun _ h => nomatch h
theorem forS_foldl {α S : Type} {f : α → S → Option S} {g : S → α → S} (I : S → Prop) : ∀ (xs : List α) (s : S), I s → (∀ x s, x ∈ xs → I s → f x s = some (g s x) ∧ I (g s x)) → forS xs s f = some (xs.foldl g s)
  | [], s, _, _ => rfl
  | x :: xs, s, hs, h => by
    obtain ⟨a, b⟩ := h x s (List.mem_cons_self ..) hs
    show (f x s >>= fun s' => forS xs s' f) = _
    rw [a]
    exact forS_foldl I xs (g s x) b fun y t hy ht => h y t (List.mem_cons_of_mem _ hy) ht
theorem first_entry_eq {bs : List IB} {u v : Int} (hb : ∀ b ∈ bs, BdB b) (hu : B100 u) (hv : B100 v) (h0 : u ≠ 0 ∨ v ≠ 0) : m_first_entry bs (u, v) = some (firstT (bs.map fun b => ent b u v)) := by
  unfold m_first_entry firstT
  rw [List.foldl_map, forS_foldl (g := fun s b => better (ent b u v) s) OB bs none (fun _ h => nomatch h) fun b s hm hs => ?_]
  · rfl
  have he : OB (ent b u v) := fun p e => ent_SB (hb b hm) hu hv e
  refine ⟨?_, better_OB he hs⟩
  rw [entry_eq (hb b hm) hu hv h0, obind_some]
  cases h1 : ent b u v with
  | none => rfl
  | some p => cases s with
    | none => rfl
    | some q =>
      obtain ⟨⟨p1, p2⟩, _⟩ := he p h1
      obtain ⟨⟨q1, q2⟩, _⟩ := hs q rfl
      show ((((m_is_sooner p q >>= fun v7 => some v7) >>= fun c8 => some c8) >>= fun c9 => cond c9 (some (some p)) (some (some q))) >>= fun s4 => some s4) = some (if p.1 * q.2 < q.1 * p.2 then some p else some q)
      rw [sooner_eq p1 p2 q1 q2]
      show ((cond (decide (p.1 * q.2 < q.1 * p.2)) (some (some p)) (some (some q))) >>= fun s4 => some s4) = _
      rw [cond_ite]; split <;> rfl
theorem met_eq {bs : List IB} {x y u v : Int} (hb : ∀ b ∈ bs, BdB (rel b x y)) (hu : B100 u) (hv : B100 v) (h0 : u ≠ 0 ∨ v ≠ 0) : m_law_met bs x y u v = some (firstT (bs.map fun b => ent (rel b x y) u v)) := by
  unfold m_law_met firstT
  rw [List.foldl_map, forS_foldl (g := fun s b => better (ent (rel b x y) u v) s) OB bs none (fun _ h => nomatch h) fun b s hm hs => ?_]
  · rfl
  have he : OB (ent (rel b x y) u v) := fun p e => ent_SB (hb b hm) hu hv e
  refine ⟨?_, better_OB he hs⟩
  rw [met_box_eq (hb b hm) hu hv h0, obind_some]
  cases h1 : ent (rel b x y) u v with
  | none => rfl
  | some p => cases s with
    | none => rfl
    | some q =>
      obtain ⟨⟨p1, p2⟩, _⟩ := he p h1
      obtain ⟨⟨q1, q2⟩, _⟩ := hs q rfl
      show ((((mulR p.1 q.2 >>= fun v7 => mulR q.1 p.2 >>= fun v10 => some (decide (v7 < v10))) >>= fun c8 => some c8) >>= fun c9 => cond c9 (some (some p)) (some (some q))) >>= fun s4 => some s4) = some (if p.1 * q.2 < q.1 * p.2 then some p else some q)
      rw [mulR_s (b100_250 p1) (b100_250 q2), mulR_s (b100_250 q1) (b100_250 p2)]
      show ((cond (decide (p.1 * q.2 < q.1 * p.2)) (some (some p)) (some (some q))) >>= fun s4 => some s4) = _
      rw [cond_ite]; split <;> rfl
end Ty

set_option maxHeartbeats 4000000
/-! names, shuffled rows, worlds, places: plain Lean -/
namespace Ty
open PySem L2
section
variable {α β γ : Type}
theorem fltR_eq (t : α → Bool) (f : α → β) : ∀ xs : List α, fltR (fun x => some (t x)) (fun x => some (f x)) xs = some ((xs.filter t).map f)
  | [] => rfl
  | x :: xs => by
    show (some (t x) >>= fun b => cond b (some (f x) >>= fun y => fltR (fun x => some (t x)) (fun x => some (f x)) xs >>= fun ys => some (y :: ys)) (fltR (fun x => some (t x)) (fun x => some (f x)) xs)) = _
    rw [obind_some, fltR_eq t f xs]
    cases h : t x with
    | true => simp [h]
    | false => simp [h]
theorem fltR_eq' {t : α → Option Bool} {f : α → Option β} (t' : α → Bool) (f' : α → β) (xs : List α) (ht : ∀ x ∈ xs, t x = some (t' x)) (hf : ∀ x ∈ xs, f x = some (f' x)) : fltR t f xs = some ((xs.filter t').map f') := by
  induction xs with
  | nil => rfl
  | cons x xs ih =>
    have ih := ih (fun y hy => ht y (List.mem_cons_of_mem _ hy)) (fun y hy => hf y (List.mem_cons_of_mem _ hy))
    show (t x >>= fun b => cond b (f x >>= fun y => fltR t f xs >>= fun ys => some (y :: ys)) (fltR t f xs)) = _
    rw [ht x (List.mem_cons_self ..), hf x (List.mem_cons_self ..), ih]
    cases h : t' x with
    | true => simp [h]
    | false => simp [h]
theorem mapR_eq (f : α → β) : ∀ xs : List α, mapR (fun x => some (f x)) xs = some (xs.map f)
  | [] => rfl
  | x :: xs => by
    show (some (f x) >>= fun y => mapR (fun x => some (f x)) xs >>= fun ys => some (y :: ys)) = _
    rw [obind_some, mapR_eq f xs]; rfl
theorem mapR_eq' {f : α → Option β} (f' : α → β) (xs : List α) (h : ∀ x ∈ xs, f x = some (f' x)) : mapR f xs = some (xs.map f') := by
  rw [mapR_congr h]; exact mapR_eq f' xs
theorem forS_push {f : α → List β → Option (List β)} (g : α → β) : ∀ (xs : List α) (s : List β), s.length + xs.length ≤ 1000000 → (∀ x s, x ∈ xs → s.length < 1000000 → f x s = some (s ++ [g x])) → forS xs s f = some (s ++ xs.map g)
  | [], s, _, _ => by simp [forS]
  | x :: xs, s, hl, h => by
    have hl : s.length + (xs.length + 1) ≤ 1000000 := hl
    show (f x s >>= fun s' => forS xs s' f) = _
    rw [h x s (List.mem_cons_self ..) (by omega), obind_some, forS_push g xs (s ++ [g x]) (by simp; omega) fun y t hy => h y t (List.mem_cons_of_mem _ hy)]
    simp
theorem pushR_eq {s : List α} {x : α} (h : s.length < 1000000) : pushR s x = some ((), s ++ [x]) := if_pos (by omega)
theorem ok_forD {Q : α → Int → Prop} {G : Int → Prop} {f : α → Int → Option Int} (mono : ∀ x s s', Q x s → s ∣ s' → Q x s') : ∀ (xs : List α) (s : Int), G s → (∀ x ∈ xs, ∀ s, G s → Ok (f x s) fun s' => G s' ∧ s ∣ s' ∧ Q x s') → Ok (forS xs s f) fun s' => G s' ∧ s ∣ s' ∧ ∀ x ∈ xs, Q x s'
  | [], s, hs, _ => ⟨s, rfl, hs, Int.dvd_refl _, fun _ h => nomatch h⟩
  | x :: xs, s, hs, h => by
    refine Ok.bind (h x (List.mem_cons_self ..) s hs) fun s' ⟨a, b, c⟩ => ?_
    refine (ok_forD mono xs s' a fun y hy => h y (List.mem_cons_of_mem _ hy)).imp fun s2 ⟨d, e, g⟩ => ⟨d, Int.dvd_trans b e, fun y hy => ?_⟩
    rcases List.mem_cons.mp hy with rfl | hy
    · exact mono _ _ _ c e
    · exact g y hy
theorem ok_popAt' {ys : List α} {i : Int} {P : α × List α → Prop} (h : ys.length ≤ 16777216) (h0 : 0 ≤ i) (h1 : i < ys.length) (p : ∀ x, ys[i.toNat]? = some x → P (x, ys.eraseIdx i.toNat)) : Ok (popAtR ys i) P := by
  unfold popAtR popR ixN
  rw [if_pos h, if_pos h0, if_pos h1]
  have hk : i.toNat < ys.length := by omega
  refine ⟨(ys[i.toNat], ys.eraseIdx i.toNat), ?_, p _ (List.getElem?_eq_getElem hk)⟩
  simp [hk]
/-- a row in some other order -/
theorem ok_shuffled {n : Nat} {t : Tape} {menu : List α} (g : Good n t) (hn : n < 900000000) (h1 : menu.length ≤ 1000) : Ok (m_law_shuffled t menu) fun x => x.1.Perm menu ∧ Good (n + menu.length) x.2 := by
  unfold m_law_shuffled
  have hc : CRng (menu.length : Int) := by unfold CRng; omega
  refine (ok_rng1 (P := fun r => r = rangeI 0 menu.length) hc rfl).bind fun v1 e1 => ?_
  subst e1
  refine (ok_forS (fun i (s : List α × List α × Tape) => s.1.length + i = menu.length ∧ (s.1 ++ s.2.1).Perm menu ∧ s.2.1.length = i ∧ Good (n + i) s.2.2) (rangeI 0 menu.length) 0 (menu, [], t) ⟨rfl, by simp, rfl, g⟩ ?_).bind ?_
  · rintro i x ⟨rest, mixed, t'⟩ _ _ hi ⟨a, b, d, e⟩
    rw [len_rangeI] at hi
    have a : rest.length + i = menu.length := a
    have d : mixed.length = i := d
    have b : (rest ++ mixed).Perm menu := b
    have hl : 0 < rest.length := by omega
    refine (ok_draw e (by omega) (by show (rest.length : Int) < _; omega)).bind fun v ⟨p1, p2, p3⟩ => ?_
    have p2 : v.1 < max (rest.length : Int) 1 := p2
    refine (ok_popAt' (P := fun y => y.2.length + 1 = rest.length ∧ (y.1 :: y.2).Perm rest) (by show rest.length ≤ _; omega) p1 (by show v.1 < (rest.length : Int); omega) fun y hy => ⟨?_, erase_perm _ _ _ hy⟩).bind fun y ⟨q1, q2⟩ => ?_
    · show (rest.eraseIdx v.1.toNat).length + 1 = rest.length
      rw [List.length_eraseIdx]
      split <;> omega
    · refine (ok_push (P := fun z => z.2 = mixed ++ [y.1]) (by show mixed.length < _; omega) rfl).bind fun z hz => Ok.ret ⟨?_, ?_, ?_, p3⟩
      · show y.2.length + (i + 1) = menu.length; omega
      · show (y.2 ++ z.2).Perm menu
        rw [hz]
        refine List.Perm.trans ?_ b
        have : (y.2 ++ (mixed ++ [y.1])).Perm (y.1 :: y.2 ++ mixed) := by
          rw [← List.append_assoc]
          exact List.perm_append_singleton y.1 (y.2 ++ mixed)
        exact this.trans (q2.append_right mixed)
      · show z.2.length = i + 1
        rw [hz]; simp [d]
  · rintro ⟨rest, mixed, t'⟩ ⟨a, b, d, e⟩
    rw [len_rangeI] at a e d
    have a : rest.length + (0 + ((menu.length : Int) - 0).toNat) = menu.length := a
    have hr : rest = [] := List.eq_nil_of_length_eq_zero (by omega)
    refine Ok.ret ⟨?_, ?_⟩
    · have b : (rest ++ mixed).Perm menu := b
      rw [hr] at b; exact b
    · have : 0 + ((menu.length : Int) - 0).toNat = menu.length := by omega
      rw [this] at e
      exact e
end
theorem atI_zero {α : Type} {x : α} {xs : List α} : atI (x :: xs) 0 = some x := by
  unfold atI ixN
  rw [if_pos (by decide), if_pos (by simp only [List.length_cons]; omega)]; rfl
theorem atI_nat {α : Type} {xs : List α} {i : Nat} {x : α} (h : xs[i]? = some x) : atI xs (i : Int) = some x := by
  have hl : i < xs.length := (List.getElem?_eq_some_iff.mp h).1
  unfold atI ixN
  rw [if_pos (by omega), if_pos (by omega)]
  simpa using h
/-! ### names -/
theorem catT_eq {a b : Str} (h : a.length + b.length ≤ 16000000) : catT a b = some (a ++ b) := if_pos h
theorem len_app (a b : Str) : (a ++ b).length = a.length + b.length := by rw [TL.len_tl, TL.tl_append, List.length_append, ← TL.len_tl, ← TL.len_tl]
def qName (j : Int) : Str := ("q" : Str) ++ (Str.ofString (toString j))
theorem qName_inj {i j : Nat} (h : qName i = qName j) : i = j := by
  have e := congrArg TL.tl h
  unfold qName at e
  rw [TL.tl_append, TL.tl_append] at e
  have e := List.append_cancel_left e
  rw [TL.tl_num, TL.tl_num] at e
  exact TL.numL_inj e
theorem nodup_sub_len : ∀ (xs ys : List Str), xs.Nodup → (∀ x ∈ xs, x ∈ ys) → xs.length ≤ ys.length
  | [], _, _, _ => Nat.zero_le _
  | x :: xs, ys, nd, h => by
    obtain ⟨h1, h2⟩ := List.nodup_cons.mp nd
    have hx := h x (List.mem_cons_self ..)
    have ih := nodup_sub_len xs (ys.erase x) h2 fun y hy => (List.mem_erase_of_ne (fun z => h1 (by rw [← z]; exact hy))).mpr (h y (List.mem_cons_of_mem _ hy))
    have := List.length_erase_of_mem hx
    have := List.length_pos_of_mem hx
    simp only [List.length_cons]
    omega
theorem names_q {names : List Str} {n : Nat} (hn : names.length = n) : ∃ x xs, ((rangeI 0 ((n : Int) + 1)).map qName).filter (fun x => !decide (x ∈ names)) = x :: xs := by
  cases h : ((rangeI 0 ((n : Int) + 1)).map qName).filter (fun x => !decide (x ∈ names)) with
  | cons x xs => exact ⟨x, xs, rfl⟩
  | nil =>
    exfalso
    have all : ∀ x ∈ (rangeI 0 ((n : Int) + 1)).map qName, x ∈ names := fun x hx => by
      have := List.filter_eq_nil_iff.mp h x hx
      simpa using this
    have nd : ((rangeI 0 ((n : Int) + 1)).map qName).Nodup := by
      have er : rangeI 0 ((n : Int) + 1) = (List.range (n + 1)).map fun i : Nat => (i : Int) := by
        unfold rangeI
        rw [show ((n : Int) + 1 - 0).toNat = n + 1 by omega]
        simp
      rw [er, List.map_map]
      refine List.Pairwise.map _ (R := fun i j : Nat => i ≠ j) (fun i j hij he => hij (qName_inj he)) List.nodup_range
    have := nodup_sub_len _ _ nd all
    rw [List.length_map, len_rangeI, hn] at this
    omega
/-- a text that can be laid -/
def sOk (x : Str) : Prop := PySem.PyData.strOk x = true
theorem sOk_app {a b : Str} (ha : sOk a) (hb : sOk b) : sOk (a ++ b) := by
  unfold sOk PySem.PyData.strOk at *
  rw [Array.all_eq_true'] at *
  intro x hx
  have : x ∈ (a.cps ++ b.cps) := hx
  rcases Array.mem_append.mp this with h | h
  · exact ha x h
  · exact hb x h
theorem sOk_of (s : String) : sOk (Str.ofString s) := by
  unfold sOk PySem.PyData.strOk
  rw [Str.ofString_eq_toList, Array.all_eq_true']
  intro x hx
  have hx : x ∈ s.toList.map Char.toNat := by simpa using hx
  obtain ⟨c, _, rfl⟩ := List.mem_map.mp hx
  have h : c.toNat < 0x110000 := by
    have := c.valid
    unfold UInt32.isValidChar Nat.isValidChar at this
    show c.val.toNat < _
    omega
  simpa using h
theorem ok_names {n : Nat} {t : Tape} {many : Nat} (g : Good n t) (hn : n < 900000000) (hm : many ≤ 1000) : Ok (m_law_names t (many : Int)) fun x => (x.1.Nodup ∧ x.1.length = many ∧ ∀ y ∈ x.1, sOk y) ∧ Good (n + 1 + 20 * many) x.2 := by
  unfold m_law_names
  refine Ok.lt ((ok_pick g (by omega) (by decide) (by decide)).bind fun v2 ⟨h2, g2⟩ => ?_)
  have hstem : v2.1.length ≤ 6 := by
    simp only [List.mem_cons, List.not_mem_nil, or_false] at h2
    rcases h2 with h | h | h | h | h | h <;> (rw [h]; decide)
  have hst : sOk v2.1 := by
    simp only [List.mem_cons, List.not_mem_nil, or_false] at h2
    rcases h2 with h | h | h | h | h | h <;> (rw [h]; exact sOk_of _)
  have hc : CRng (many : Int) := by unfold CRng; omega
  refine (ok_rng1 (P := fun r => r = rangeI 0 many) hc rfl).bind fun v3 e3 => ?_
  subst e3
  refine (ok_forS (fun i (s : List Str × Tape) => s.1.Nodup ∧ s.1.length = i ∧ (∀ y ∈ s.1, sOk y) ∧ Good (n + 1 + 20 * i) s.2) (rangeI 0 many) 0 ([], v2.2) ⟨List.nodup_nil, rfl, fun _ h => (nomatch h), g2⟩ ?_).bind fun s ⟨a, b, so, c⟩ => ?_
  · rintro i x ⟨names, t1⟩ _ _ hi ⟨nd, nl, sn, g1⟩
    rw [len_rangeI] at hi
    have nd : names.Nodup := nd
    have nl : names.length = i := nl
    refine Ok.get (show lenT v2.1 = some (v2.1.length : Int) from if_pos (by omega)) ?_
    refine (ok_pick g1 (by omega) (by show 0 < 4; decide) (by show 4 < _; decide)).bind fun v7 ⟨h7, g7⟩ => ?_
    have h7 : 0 ≤ v7.1 ∧ v7.1 ≤ 8 := by
      simp only [List.mem_cons, List.not_mem_nil, or_false] at h7
      omega
    refine (ok_rng1 (P := fun r => r = rangeI 0 v7.1) (by unfold CRng; omega) rfl).bind fun v8 e8 => ?_
    subst e8
    refine (ok_forS (fun j (s : Str × Tape) => s.1.length = v2.1.length + j ∧ sOk s.1 ∧ Good (n + 1 + 20 * i + 1 + j) s.2) (rangeI 0 v7.1) 0 (v2.1, v7.2) ⟨rfl, hst, g7⟩ ?_).bind fun s9 ⟨q1, qs, q2⟩ => ?_
    · rintro j y ⟨name, t2⟩ _ _ hj ⟨l1, ls, g9⟩
      rw [len_rangeI] at hj
      have l1 : name.length = v2.1.length + j := l1
      refine (ok_draw g9 (by omega) (by have h : ∀ c : Bool, cond c (36 : Int) 26 < 2 ^ 200 := fun c => by cases c <;> decide
                                        exact h _)).bind fun v11 ⟨a, b, g11⟩ => ?_
      have b36 : v11.1 < 36 := by
        have b : v11.1 < max (cond (!decide (name = ("" : Str))) (36 : Int) (26 : Int)) 1 := b
        have hc : ∀ c : Bool, cond c (36 : Int) 26 ≤ 36 := fun c => by cases c <;> decide
        have := hc (!decide (name = ("" : Str)))
        omega
      refine Ok.bind (P := fun v => v.length = 1 ∧ sOk v) ?_ fun v12 ⟨l12, s12⟩ => ?_
      · obtain ⟨k, hk⟩ := Int.eq_ofNat_of_zero_le a
        have k36 : k < 36 := by omega
        rw [hk]
        have all : ∀ k : Nat, k < 36 → ∃ c, atT ("abcdefghijklmnopqrstuvwxyz0123456789" : Str) (k : Int) = some ⟨#[c]⟩ ∧ c < 0x110000 := by
          intro k hk
          have hl : ("abcdefghijklmnopqrstuvwxyz0123456789" : Str).cps.toList.length = 36 := by decide
          unfold atT
          rw [if_pos (by decide)]
          unfold atI ixN
          rw [hl, if_pos (by omega), if_pos (by omega)]
          refine ⟨("abcdefghijklmnopqrstuvwxyz0123456789" : Str).cps.toList[k]'(by rw [hl]; exact hk), ?_, ?_⟩
          rotate_left
          · have all : ∀ c ∈ ("abcdefghijklmnopqrstuvwxyz0123456789" : Str).cps.toList, c < 0x110000 := by decide
            exact all _ (List.getElem_mem _)
          show Option.map (fun c => (⟨#[c]⟩ : Str)) (("abcdefghijklmnopqrstuvwxyz0123456789" : Str).cps.toList[((k : Int)).toNat]?) = _
          rw [Int.toNat_natCast, List.getElem?_eq_getElem (by rw [hl]; exact hk)]
          rfl
        obtain ⟨c, e, ec⟩ := all k k36
        exact ⟨_, e, rfl, by unfold sOk PySem.PyData.strOk; simpa using ec⟩
      · refine Ok.get (catT_eq (by show name.length + _ ≤ _; omega)) (Ok.ret ⟨?_, sOk_app ls s12, g11⟩)
        show (name ++ v12).length = _
        rw [len_app, l1, l12]; omega
    · rw [len_rangeI] at q1 q2
      have g9 : Good (n + 1 + 20 * i + 9) s9.2 := q2.mono (by omega)
      refine Ok.bind (P := fun s14 => sOk s14.1 ∧ Good (n + 1 + 20 * i + 11) s14.2) ?_ fun s14 ⟨s14o, g14⟩ => ?_
      · refine (ok_draw g9 (by omega) (by decide)).bind fun v15 ⟨_, _, g15⟩ => Ok.cond (fun _ => ?_) (fun _ => Ok.ret ⟨qs, g15.mono (by omega)⟩)
        refine (ok_pick g15 (by omega) (by show 0 < 10; decide) (by show 10 < _; decide)).bind fun v16 ⟨h16, g16⟩ => Ok.ret ⟨?_, g16⟩
        simp only [List.mem_cons, List.not_mem_nil, or_false] at h16
        show sOk v16.1
        rcases h16 with h | h | h | h | h | h | h | h | h | h <;> (rw [h]; exact sOk_of _)
      refine Ok.bind (P := fun s17 => s17 ∉ names ∧ sOk s17) (Ok.cond (fun _ => ?_) (fun h => Ok.ret ⟨?_, s14o⟩)) fun s17 ⟨h17, s17o⟩ => ?_
      · refine (ok_rng1 (P := fun r => r = rangeI 0 ((i : Int) + 1)) (by show CRng ((names.length : Int) + 1); unfold CRng; omega) (by show rangeI 0 ((names.length : Int) + 1) = _; rw [nl])).bind fun v18 e18 => ?_
        subst e18
        have em : mapR (fun x19 => strI x19 >>= fun v20 => catT ("q" : Str) v20 >>= fun v21 => some v21) (rangeI 0 ((i : Int) + 1)) = some ((rangeI 0 ((i : Int) + 1)).map qName) := mapR_eq' _ _ fun x hx => by
          obtain ⟨a, b⟩ := mem_rangeI hx
          have e1 : strI x = some (Str.ofString (toString x)) := if_pos (by
            have := log2_small (x := x) (k := 63) (by omega)
            omega)
          rw [e1, obind_some]
          have : (Str.ofString (toString x)).length ≤ 10000 := by
            obtain ⟨k, hk⟩ := Int.eq_ofNat_of_zero_le a
            subst hk
            rw [TL.len_tl, TL.tl_num]
            unfold TL.numL
            rw [List.length_map]
            have : ∀ m : Nat, m < 10 ^ 8 → (Nat.toDigits 10 m).length ≤ 10000 := fun m hm => by
              have h := (Nat.length_toDigits_le_iff (b := 10) (n := m) (k := 8) (by decide) (by decide)).mpr hm
              omega
            exact this k (by omega)
          rw [catT_eq (by have : ("q" : Str).length = 1 := by decide
                          omega)]
          rfl
        refine Ok.get em (Ok.get (fltR_eq _ _ _) ?_)
        obtain ⟨x, xs, e⟩ := names_q nl
        rw [e]
        have mx : x ∈ x :: xs := List.mem_cons_self ..
        rw [← e] at mx
        refine ⟨x, by rw [List.map_id', atI_zero]; rfl, ?_, ?_⟩
        · have := (List.mem_filter.mp mx).2
          simpa using this
        · obtain ⟨j, _, rfl⟩ := List.mem_map.mp (List.mem_filter.mp mx).1
          exact sOk_app (sOk_of _) (sOk_of _)
      · simp only [Bool.or_eq_false_iff, decide_eq_false_iff_not] at h
        exact h.1
      · refine (ok_push (P := fun z => z.2 = names ++ [s17]) (by show names.length < _; omega) rfl).bind fun v26 e26 => Ok.ret ⟨?_, ?_, ?_, ?_⟩
        · show v26.2.Nodup
          rw [e26]
          refine List.nodup_append.mpr ⟨nd, by simp, fun a ha b hb => ?_⟩
          rw [List.mem_singleton.mp hb]
          intro z; subst z; exact h17 ha
        · show v26.2.length = i + 1
          rw [e26]; simp [nl]
        · intro y hy
          have hy : y ∈ v26.2 := hy
          rw [e26] at hy
          rcases List.mem_append.mp hy with h | h
          · exact sn y h
          · rw [List.mem_singleton.mp h]; exact s17o
        · exact g14.mono (by omega)
  · rw [len_rangeI] at b c
    refine Ok.ret ⟨⟨a, by rw [b]; omega, so⟩, c.mono (by omega)⟩
end Ty

set_option maxHeartbeats 4000000
/-! worlds, places, what is around a point: plain Lean -/
namespace Ty
open PySem L2
abbrev Thg := Str × Str × Bool
abbrev Hd := Int × Int × Int × List Thg
abbrev Plc := List (List FBx)
abbrev Wld := Hd × Int × List (List IB)
/-- a fraction whose denominator divides D -/
def Fd (D : Int) (f : P2) : Prop := 0 < f.2 ∧ f.2 ∣ D ∧ f.1.natAbs ≤ 2 ^ 30
def FBk (D : Int) (b : FBx) : Prop := Fd D b.1 ∧ Fd D b.2.1 ∧ Fd D b.2.2.1 ∧ Fd D b.2.2.2
def DOk (D : Int) : Prop := 0 < D ∧ D ≤ 2 ^ 20
theorem dvd_le {a b : Int} (hb : 0 < b) (h : a ∣ b) : a ≤ b := Int.le_of_dvd hb h
theorem Fd.le {D : Int} {f : P2} (hD : DOk D) (h : Fd D f) : f.2 ≤ 2 ^ 20 := Int.le_trans (dvd_le hD.1 h.2.1) hD.2
/-- the number of a fraction over a unit -/
def wI (unit : Int) (f : P2) : Int := f.1 * unit.fdiv f.2
def toI (unit : Int) (b : FBx) : IB := (wI unit b.1, wI unit b.2.1, wI unit b.2.2.1, wI unit b.2.2.2)
section
variable {D unit : Int} {f : P2} {b : FBx}
theorem fdiv_mul' {u d : Int} (h : d ∣ u) : u.fdiv d * d = u := Int.fdiv_mul_cancel h
theorem wI_mul (h : f.2 ∣ unit) : wI unit f * f.2 = f.1 * unit := by
  unfold wI; rw [Int.mul_assoc, fdiv_mul' h]
theorem wI_rel {s : Int} (h0 : 0 < f.2) (h1 : f.2 ∣ unit) (h2 : f.2 ∣ s) : unit * wI s f = s * wI unit f := by
  refine Int.eq_of_mul_eq_mul_right (a := f.2) (by omega) ?_
  have a := wI_mul h1
  have c := wI_mul h2
  grind
theorem wI_b (hD : DOk D) (hf : Fd D f) (h1 : f.2 ∣ unit) (h0 : 0 < unit) (hu : unit ≤ 2 ^ 21) : (wI unit f).natAbs ≤ 2 ^ 51 := by
  have m := wI_mul h1
  have : (wI unit f).natAbs * f.2.natAbs = f.1.natAbs * unit.natAbs := by rw [← Int.natAbs_mul, m, Int.natAbs_mul]
  have a : (wI unit f).natAbs ≤ (wI unit f).natAbs * f.2.natAbs := Nat.le_mul_of_pos_right _ (by have := hf.1; omega)
  have c : f.1.natAbs * unit.natAbs ≤ 2 ^ 30 * 2 ^ 21 := Nat.mul_le_mul hf.2.2 (by omega)
  have e : 2 ^ 30 * 2 ^ 21 = 2 ^ 51 := by decide
  omega
theorem toI_b (hD : DOk D) (hf : FBk D b) (h1 : b.1.2 ∣ unit ∧ b.2.1.2 ∣ unit ∧ b.2.2.1.2 ∣ unit ∧ b.2.2.2.2 ∣ unit) (h0 : 0 < unit) (hu : unit ≤ 2 ^ 21) :
    (toI unit b).1.natAbs ≤ 2 ^ 51 ∧ (toI unit b).2.1.natAbs ≤ 2 ^ 51 ∧ (toI unit b).2.2.1.natAbs ≤ 2 ^ 51 ∧ (toI unit b).2.2.2.natAbs ≤ 2 ^ 51 :=
  ⟨wI_b hD hf.1 h1.1 h0 hu, wI_b hD hf.2.1 h1.2.1 h0 hu, wI_b hD hf.2.2.1 h1.2.2.1 h0 hu, wI_b hD hf.2.2.2 h1.2.2.2 h0 hu⟩
theorem rel_b {c : IB} {x y : Int} (h : c.1.natAbs ≤ 2 ^ 51 ∧ c.2.1.natAbs ≤ 2 ^ 51 ∧ c.2.2.1.natAbs ≤ 2 ^ 51 ∧ c.2.2.2.natAbs ≤ 2 ^ 51) (hx : x.natAbs ≤ 2 ^ 51) (hy : y.natAbs ≤ 2 ^ 51) : BdB (rel c x y) := by
  unfold BdB rel
  dsimp only
  refine ⟨?_, ?_, ?_, ?_⟩ <;> (show Int.natAbs _ < _; omega)
end
/-- all numbers' denominators divide u -/
def DvB (u : Int) (b : FBx) : Prop := b.1.2 ∣ u ∧ b.2.1.2 ∣ u ∧ b.2.2.1.2 ∣ u ∧ b.2.2.2.2 ∣ u
theorem DvB.mono {u u' : Int} {b : FBx} (h : DvB u b) (d : u ∣ u') : DvB u' b := ⟨Int.dvd_trans h.1 d, Int.dvd_trans h.2.1 d, Int.dvd_trans h.2.2.1 d, Int.dvd_trans h.2.2.2 d⟩
theorem lcm_step {s b : Int} (hs : 0 < s) (hb : 0 < b) : s * (lowV s b).2 = ((Nat.lcm s.natAbs b.natAbs : Nat) : Int) := by
  have g := gcdI_pos (n := s) (d := b) (by omega)
  have m := (lowV_mul (n := s) (d := b) (by omega)).2
  have e : sgR s b = gcdI s b := if_neg (by omega)
  rw [e] at m
  refine Int.eq_of_mul_eq_mul_right (a := gcdI s b) (by omega) ?_
  rw [Int.mul_assoc, m]
  unfold gcdI
  rw [← Int.natCast_mul, Nat.mul_comm (Nat.lcm _ _), Nat.gcd_mul_lcm, Int.natCast_mul, Int.natAbs_of_nonneg (by omega : 0 ≤ s), Int.natAbs_of_nonneg (by omega : 0 ≤ b)]
theorem lcm_facts {s b D : Int} (hs : 0 < s) (hb : 0 < b) (h1 : s ∣ D) (h2 : b ∣ D) : 0 < ((Nat.lcm s.natAbs b.natAbs : Nat) : Int) ∧ s ∣ ((Nat.lcm s.natAbs b.natAbs : Nat) : Int) ∧ b ∣ ((Nat.lcm s.natAbs b.natAbs : Nat) : Int) ∧ ((Nat.lcm s.natAbs b.natAbs : Nat) : Int) ∣ D := by
  refine ⟨?_, ?_, ?_, ?_⟩
  · have : 0 < Nat.lcm s.natAbs b.natAbs := Nat.lcm_pos (by omega) (by omega)
    omega
  · exact Int.ofNat_dvd_right.mpr (Nat.dvd_lcm_left ..)
  · exact Int.ofNat_dvd_right.mpr (Nat.dvd_lcm_right ..)
  · exact Int.ofNat_dvd_left.mpr (Nat.lcm_dvd (Int.natAbs_dvd_natAbs.mpr h1) (Int.natAbs_dvd_natAbs.mpr h2))
def GU (D s : Int) : Prop := 0 < s ∧ s ∣ D
theorem GU.le {D s : Int} (hD : DOk D) (h : GU D s) : s ≤ 2 ^ 20 := Int.le_trans (dvd_le hD.1 h.2) hD.2
theorem world_ok {D : Int} (hD : DOk D) {head : Hd} {placing : Plc} (hp : ∀ p ∈ placing, ∀ b ∈ p, FBk D b) (hl : placing.length ≤ 1000) (hl2 : ∀ p ∈ placing, p.length ≤ 1000) :
    Ok (m_law_world head placing) fun w => ∃ unit, w = (head, unit, placing.map fun p => p.map (toI unit)) ∧ 0 < unit ∧ unit ≤ 2 ^ 21 ∧ ∀ p ∈ placing, ∀ b ∈ p, DvB unit b := by
  unfold m_law_world
  refine Ok.bind (P := fun s => GU D s ∧ ∀ p ∈ placing, ∀ b ∈ p, DvB s b) ?_ ?_
  · refine (ok_forD (Q := fun p s => ∀ b ∈ p, DvB s b) (G := GU D) (fun p s s' h d b hb => (h b hb).mono d) placing 1 ⟨by decide, Int.one_dvd _⟩ fun p hpm s hs => ?_).imp fun s h => ⟨h.1, h.2.2⟩
    refine Ok.bind (P := fun s' => GU D s' ∧ s ∣ s' ∧ ∀ b ∈ p, DvB s' b) (ok_forD (Q := fun b s => DvB s b) (G := GU D) (fun b s s' h d => h.mono d) p s hs fun b hb s hs => ?_) fun v h => Ok.ret h
    have fb := hp p hpm b hb
    refine Ok.bind (P := fun s' => GU D s' ∧ s ∣ s' ∧ ∀ f ∈ ([b.1, b.2.1, b.2.2.1, b.2.2.2] : List P2), f.2 ∣ s') (ok_forD (Q := fun (f : P2) s => f.2 ∣ s) (G := GU D) (fun f s s' h d => Int.dvd_trans h d) _ s hs fun f hf s hs => ?_) fun v h => Ok.ret ⟨h.1, h.2.1, h.2.2 _ (by simp), h.2.2 _ (by simp), h.2.2 _ (by simp), h.2.2 _ (by simp)⟩
    have ff : Fd D f := by
      simp only [List.mem_cons, List.not_mem_nil, or_false] at hf
      rcases hf with rfl | rfl | rfl | rfl
      · exact fb.1
      · exact fb.2.1
      · exact fb.2.2.1
      · exact fb.2.2.2
    have f0 := ff.1
    have fl := ff.le hD
    have sl := hs.le hD
    have s0 := hs.1
    refine Ok.bind (P := fun s' => GU D s' ∧ s ∣ s' ∧ f.2 ∣ s') ?_ fun v h => Ok.ret h
    refine Ok.get (fmodR_s (by omega)) (Ok.cond (fun h => ?_) (fun h => ?_))
    · refine Ok.get (show m_law_low s f.2 = some (lowV s f.2) by rw [low_eq, lowR_eq (by omega) (by omega)]) ?_
      have l3 := (lowV_le (n := s) (d := f.2) (by omega)).2
      refine Ok.get (mulR_s (by omega) (by omega)) (Ok.ret ?_)
      rw [lcm_step s0 f0]
      obtain ⟨a, b, c, d⟩ := lcm_facts s0 f0 hs.2 ff.2.1
      exact ⟨⟨a, d⟩, b, c⟩
    · have h := of_decide_eq_false h
      have h2 := Int.fmod_nonneg_of_pos s f0
      exact Ok.ret ⟨hs, Int.dvd_refl _, Int.dvd_of_fmod_eq_zero (by omega)⟩
  · intro s ⟨hs, hd⟩
    have sl := hs.le hD
    have s0 := hs.1
    refine Ok.get (mulR_s (by decide) (by omega)) ?_
    have hd2 : ∀ p ∈ placing, ∀ b ∈ p, DvB (2 * s) b := fun p hp b hb => (hd p hp b hb).mono (Int.dvd_mul_left ..)
    have e : forS placing ([] : List (List IB)) (fun x13 s12 => forS x13 ([] : List IB) (fun x15 s14 => mapR (fun x16 => fdivR (2 * s) x16.2 >>= fun v17 => mulR x16.1 v17 >>= fun v18 => some v18) ([x15.1, x15.2.1, x15.2.2.1, x15.2.2.2]) >>= fun ys19 =>
        (dTup (dRC dInt (dRC dInt (dRC dInt (dR1 dInt))))) ((uSeq uInt) ys19) >>= fun v20 => pushR s14 v20 >>= fun v21 => some v21.2) >>= fun s14 => pushR s12 s14 >>= fun v22 => some v22.2) = some ([] ++ placing.map fun p => p.map (toI (2 * s))) := by
      refine forS_push _ placing [] (by simpa using Nat.le_trans hl (by decide)) fun p s12 hpm h12 => ?_
      have e2 : forS p ([] : List IB) (fun x15 s14 => mapR (fun x16 => fdivR (2 * s) x16.2 >>= fun v17 => mulR x16.1 v17 >>= fun v18 => some v18) ([x15.1, x15.2.1, x15.2.2.1, x15.2.2.2]) >>= fun ys19 =>
          (dTup (dRC dInt (dRC dInt (dRC dInt (dR1 dInt))))) ((uSeq uInt) ys19) >>= fun v20 => pushR s14 v20 >>= fun v21 => some v21.2) = some ([] ++ p.map (toI (2 * s))) := by
        refine forS_push _ p [] (by simpa using Nat.le_trans (hl2 p hpm) (by decide)) fun b s14 hb h14 => ?_
        have fb := hp p hpm b hb
        have one : ∀ f : P2, Fd D f → (fdivR (2 * s) f.2 >>= fun v17 => mulR f.1 v17 >>= fun v18 => some v18) = some (wI (2 * s) f) := fun f ff => by
          have f0 := ff.1
          have fl := ff.le hD
          have q : ((2 * s).fdiv f.2).natAbs ≤ 2 ^ 21 := by
            rw [Int.fdiv_eq_ediv_of_nonneg _ (by omega)]
            have := Int.ediv_le_self (a := 2 * s) f.2 (by omega)
            have := Int.ediv_nonneg (a := 2 * s) (b := f.2) (by omega) (by omega)
            omega
          rw [fdivR_s (by omega) (by omega), obind_some, mulR_s (by have := ff.2.2; omega) (by omega)]; rfl
        rw [mapR_eq' (wI (2 * s)) _ fun f hf => one f (by
          simp only [List.mem_cons, List.not_mem_nil, or_false] at hf
          rcases hf with rfl | rfl | rfl | rfl
          · exact fb.1
          · exact fb.2.1
          · exact fb.2.2.1
          · exact fb.2.2.2), obind_some]
        show (pushR s14 (toI (2 * s) b) >>= fun v21 => some v21.2) = _
        rw [pushR_eq h14]; rfl
      rw [e2, obind_some, List.nil_append, pushR_eq h12]; rfl
    refine Ok.get e (Ok.ret ⟨2 * s, by simp, by omega, by omega, hd2⟩)
/-! ### places -/
/-- a head and a placing that fit -/
structure Scn (D : Int) (head : Hd) (placing : Plc) : Prop where
  dok : DOk D
  nd : (head.2.2.2.map (·.1)).Nodup
  len : placing.length = head.2.2.2.length
  few : head.2.2.2.length ≤ 100
  mo : 1 ≤ head.2.2.1 ∧ head.2.2.1 ≤ 100
  shape : ∀ (i : Nat) (t : Thg) (p : List FBx), head.2.2.2[i]? = some t → placing[i]? = some p → (t.2.2 = true → t.2.1 ≠ "land" ∧ p.length = head.2.2.1.toNat) ∧ (t.2.2 = false → t.2.1 ≠ "land" → p.length = 1) ∧ 1 ≤ p.length ∧ p.length ≤ 1000
  ok : ∀ p ∈ placing, ∀ b ∈ p, FBk D b
theorem idx_of {xs : List Str} {i : Nat} {x : Str} (nd : xs.Nodup) (h : xs[i]? = some x) : idxR xs x = some (i : Int) := by
  have hl : i < xs.length := (List.getElem?_eq_some_iff.mp h).1
  have hx : xs[i] = x := (List.getElem?_eq_some_iff.mp h).2
  have hm : x ∈ xs := List.mem_of_getElem? h
  unfold idxR
  rw [if_pos hm]
  congr 2
  rw [← hx]
  exact nd.idxOf_getElem i hl
/-- the boxes of a thing at a moment -/
def bsOf (head : Hd) (placing : Plc) (name : Str) (m : Int) : List FBx := ((head.2.2.2.map (·.1)).idxOf name |> fun i => match head.2.2.2[i]?, placing[i]? with
  | some t, some p => if t.2.2 then (match p[m.toNat]? with | some b => [b] | none => []) else p
  | _, _ => [])
section
variable {D : Int} {head : Hd} {placing : Plc} {name : Str} {m : Int}
theorem bs_ok (S : Scn D head placing) (hn : name ∈ head.2.2.2.map (·.1)) (h0 : 0 ≤ m) (h1 : m < head.2.2.1) :
    m_region_of head placing (name, m) = some (bsOf head placing name m) ∧ (∀ unit, m_law_place (head, unit, placing.map fun p => p.map (toI unit)) (name, m) = some ((bsOf head placing name m).map (toI unit))) ∧
      1 ≤ (bsOf head placing name m).length ∧ (bsOf head placing name m).length ≤ 1000 ∧ (∀ b ∈ bsOf head placing name m, ∃ p ∈ placing, b ∈ p) ∧ (∀ t ∈ head.2.2.2, t.1 = name → t.2.1 ≠ "land" → (bsOf head placing name m).length = 1) := by
  obtain ⟨i, hi, hx⟩ := List.getElem_of_mem hn
  have hg : (head.2.2.2.map (·.1))[i]? = some name := by rw [List.getElem?_eq_getElem hi, hx]
  have ei := idx_of S.nd hg
  have eidx : (head.2.2.2.map (·.1)).idxOf name = i := by
    unfold idxR at ei
    rw [if_pos hn] at ei
    have := Option.some.inj ei
    omega
  have hil : i < head.2.2.2.length := by simpa using hi
  have hip : i < placing.length := by rw [S.len]; exact hil
  have gt : head.2.2.2[i]? = some head.2.2.2[i] := List.getElem?_eq_getElem hil
  have gp : placing[i]? = some placing[i] := List.getElem?_eq_getElem hip
  generalize ht : head.2.2.2[i] = t at gt
  generalize hpp : placing[i] = p at gp
  have tn : t.1 = name := by
    rw [List.getElem_map] at hx
    rw [← ht]; exact hx
  obtain ⟨s1, s2, s3, s4⟩ := S.shape i t p gt gp
  have eb : bsOf head placing name m = if t.2.2 then (match p[m.toNat]? with | some b => [b] | none => []) else p := by
    unfold bsOf
    dsimp only
    rw [eidx, gt, gp]
  have uniq : ∀ t' ∈ head.2.2.2, t'.1 = name → t' = t := fun t' ht' e => by
    obtain ⟨j, hj, hjx⟩ := List.getElem_of_mem ht'
    have gj : (head.2.2.2.map (·.1))[j]? = some name := by
      rw [List.getElem?_map, List.getElem?_eq_getElem hj, hjx]
      show some t'.1 = _
      rw [e]
    have ej := idx_of S.nd gj
    rw [ei] at ej
    have : i = j := by have := Option.some.inj ej; omega
    subst this
    rw [← hjx, ht]
  have hnum : m_number_of head name = some (i : Int) := by
    unfold m_number_of m_names_of
    rw [mapR_eq, obind_some, obind_some, ei]; rfl
  have hreg : m_region_of head placing (name, m) = cond t.2.2 (atI p m >>= fun v4 => some [v4]) (some p) := by
    unfold m_region_of
    dsimp only
    rw [hnum, obind_some, atI_nat gt, obind_some, atI_nat gp]
    cases t.2.2 <;> rfl
  have hpl : ∀ unit, m_law_place (head, unit, placing.map fun p => p.map (toI unit)) (name, m) = cond (decide (t.2.1 = ("land" : Str))) (some (p.map (toI unit))) (atI (p.map (toI unit)) (cond t.2.2 m 0) >>= fun v7 => some [v7]) := fun unit => by
    unfold m_law_place
    dsimp only
    have gw : (placing.map fun p => p.map (toI unit))[i]? = some (p.map (toI unit)) := by rw [List.getElem?_map, gp]; rfl
    rw [mapR_eq, obind_some, ei, obind_some, atI_nat gt, obind_some, atI_nat gw]
    cases decide (t.2.1 = ("land" : Str)) <;> rfl
  cases hmv : t.2.2 with
  | true =>
    obtain ⟨nl, pl⟩ := s1 hmv
    obtain ⟨k, rfl⟩ := Int.eq_ofNat_of_zero_le h0
    have hk : k < p.length := by rw [pl]; omega
    have gk : p[k]? = some p[k] := List.getElem?_eq_getElem hk
    have eb' : bsOf head placing name (k : Int) = [p[k]] := by
      rw [eb, hmv, if_pos rfl, Int.toNat_natCast, gk]
    rw [eb']
    refine ⟨?_, fun unit => ?_, Nat.le_refl _, (by show 1 ≤ 1000; decide), fun b hb => ?_, fun t' ht' e _ => rfl⟩
    · rw [hreg, hmv, cond_true, atI_nat gk]; rfl
    · have gk2 : (p.map (toI unit))[k]? = some (toI unit p[k]) := by rw [List.getElem?_map, gk]; rfl
      rw [hpl, hmv, show decide (t.2.1 = ("land" : Str)) = false from decide_eq_false nl, cond_false, cond_true, atI_nat gk2]; rfl
    · rw [List.mem_singleton.mp hb]
      exact ⟨p, List.mem_of_getElem? gp, List.mem_of_getElem? gk⟩
  | false =>
    have eb' : bsOf head placing name m = p := by rw [eb, hmv]; rfl
    rw [eb']
    refine ⟨?_, fun unit => ?_, s3, s4, fun b hb => ⟨p, List.mem_of_getElem? gp, hb⟩, fun t' ht' e nl => ?_⟩
    · rw [hreg, hmv, cond_false]
    · rw [hpl, hmv, cond_false]
      by_cases nl : t.2.1 = "land"
      · rw [show decide (t.2.1 = ("land" : Str)) = true from decide_eq_true nl, cond_true]
      · rw [show decide (t.2.1 = ("land" : Str)) = false from decide_eq_false nl, cond_false]
        have p1 := s2 hmv nl
        obtain ⟨b, rfl⟩ : ∃ b, p = [b] := List.length_eq_one_iff.mp p1
        rfl
    · have := uniq t' ht' e
      subst this
      exact s2 hmv nl
theorem bs_F (S : Scn D head placing) (hn : name ∈ head.2.2.2.map (·.1)) (h0 : 0 ≤ m) (h1 : m < head.2.2.1) : ∀ b ∈ bsOf head placing name m, FBk D b := fun b hb => by
  obtain ⟨p, hp, hb⟩ := (bs_ok S hn h0 h1).2.2.2.2.1 b hb
  exact S.ok p hp b hb
/-- the first box -/
def b0Of (head : Hd) (placing : Plc) (name : Str) (m : Int) : FBx := (bsOf head placing name m).headD ((0, 1), (0, 1), (0, 1), (0, 1))
theorem b0_mem (S : Scn D head placing) (hn : name ∈ head.2.2.2.map (·.1)) (h0 : 0 ≤ m) (h1 : m < head.2.2.1) : ∃ rest, bsOf head placing name m = b0Of head placing name m :: rest := by
  have l := (bs_ok S hn h0 h1).2.2.1
  unfold b0Of
  cases h : bsOf head placing name m with
  | nil => rw [h] at l; simp at l
  | cons b bs => exact ⟨bs, rfl⟩
theorem box_of_ok (S : Scn D head placing) (hn : name ∈ head.2.2.2.map (·.1)) (h0 : 0 ≤ m) (h1 : m < head.2.2.1) : m_box_of head placing (name, m) = some (b0Of head placing name m) := by
  obtain ⟨rest, e⟩ := b0_mem S hn h0 h1
  unfold m_box_of
  rw [(bs_ok S hn h0 h1).1, obind_some, e, atI_zero]; rfl
theorem spot_at_ok (S : Scn D head placing) (hn : name ∈ head.2.2.2.map (·.1)) (h0 : 0 ≤ m) (h1 : m < head.2.2.1) : m_spot_at head placing (name, m) = some ((b0Of head placing name m).1, (b0Of head placing name m).2.1) := by
  unfold m_spot_at
  rw [box_of_ok S hn h0 h1]; rfl
theorem line_spot_ok (S : Scn D head placing) (hn : name ∈ head.2.2.2.map (·.1)) (h0 : 0 ≤ m) (h1 : m < head.2.2.1) (unit : Int) :
    m_law_line_spot (head, unit, placing.map fun p => p.map (toI unit)) (name, m) = some (wI unit (b0Of head placing name m).1, wI unit (b0Of head placing name m).2.1) := by
  obtain ⟨rest, e⟩ := b0_mem S hn h0 h1
  unfold m_law_line_spot
  rw [(bs_ok S hn h0 h1).2.1, obind_some, e, List.map_cons, atI_zero]; rfl
end
/-! ### around a point -/
theorem lc2R_flat {bs : List FBx} (h : bs.length ≤ 1000) : lc2R (fun _ => some true) (fun x => some ([x.1, x.2.1, x.2.2.1, x.2.2.2])) (fun _ _ => some true) (fun _ y => some y) bs = some (bs.flatMap fun x => [x.1, x.2.1, x.2.2.1, x.2.2.2]) := by
  have e : ∀ bs : List FBx, lc2G (fun _ => some true) (fun x : FBx => some ([x.1, x.2.1, x.2.2.1, x.2.2.2])) (fun _ _ => some true) (fun _ y => some y) bs = some (bs.flatMap fun x => [x.1, x.2.1, x.2.2.1, x.2.2.2]) := by
    intro bs
    induction bs with
    | nil => rfl
    | cons b bs ih =>
      show (lc2G _ _ _ _ bs >>= fun rest => some ([b.1, b.2.1, b.2.2.1, b.2.2.2] ++ rest)) = _
      rw [ih]; rfl
  have l : ∀ bs : List FBx, (bs.flatMap fun x => [x.1, x.2.1, x.2.2.1, x.2.2.2]).length = 4 * bs.length := by
    intro bs
    induction bs with
    | nil => rfl
    | cons b bs ih => rw [List.flatMap_cons, List.length_append, ih]; simp; omega
  unfold lc2R
  rw [e, obind_some, if_pos (by rw [l]; omega)]
def relF (s : Int) (p : P2 × P2) (b : FBx) : IB := rel (toI s b) (wI s p.1) (wI s p.2)
theorem whole_ok {D s : Int} {f : P2} (hD : DOk D) (hs : GU D s) (hf : Fd D f) : m_whole f s = some (wI s f) := by
  have f0 := hf.1
  have fl := hf.le hD
  have sl := hs.le hD
  have s0 := hs.1
  have q : (s.fdiv f.2).natAbs ≤ 2 ^ 21 := by
    rw [Int.fdiv_eq_ediv_of_nonneg _ (by omega)]
    have := Int.ediv_le_self (a := s) f.2 (by omega)
    have := Int.ediv_nonneg (a := s) (b := f.2) (by omega) (by omega)
    omega
  unfold m_whole
  rw [fdivR_s (by omega) (by omega), obind_some, mulR_s (by have := hf.2.2; omega) (by omega)]; rfl
theorem around_ok {D : Int} (hD : DOk D) {p : P2 × P2} {bs : List FBx} (hp : Fd D p.1 ∧ Fd D p.2) (hb : ∀ b ∈ bs, FBk D b) (hl : bs.length ≤ 1000) :
    Ok (m_around p bs) fun r => ∃ s, r = (s, bs.map (relF s p)) ∧ GU D s ∧ p.1.2 ∣ s ∧ p.2.2 ∣ s ∧ ∀ b ∈ bs, DvB s b := by
  unfold m_around
  refine Ok.get (lc2R_flat hl) ?_
  have ll : (bs.flatMap fun x => [x.1, x.2.1, x.2.2.1, x.2.2.2]).length ≤ 4000 := by
    have : ∀ bs : List FBx, (bs.flatMap fun x => [x.1, x.2.1, x.2.2.1, x.2.2.2]).length = 4 * bs.length := by
      intro bs
      induction bs with
      | nil => rfl
      | cons b bs ih => rw [List.flatMap_cons, List.length_append, ih]; simp; omega
    rw [this]; omega
  refine (ok_cat (P := fun v => v = [p.1, p.2] ++ bs.flatMap fun x => [x.1, x.2.1, x.2.2.1, x.2.2.2]) (by simp only [List.length_cons, List.length_nil]; omega) rfl).bind fun v4 e4 => ?_
  have fm : ∀ f ∈ v4, Fd D f := fun f hf => by
    rw [e4] at hf
    rcases List.mem_append.mp hf with h | h
    · simp only [List.mem_cons, List.not_mem_nil, or_false] at h
      rcases h with rfl | rfl
      · exact hp.1
      · exact hp.2
    · obtain ⟨b, hbm, h⟩ := List.mem_flatMap.mp h
      have fb := hb b hbm
      simp only [List.mem_cons, List.not_mem_nil, or_false] at h
      rcases h with rfl | rfl | rfl | rfl
      · exact fb.1
      · exact fb.2.1
      · exact fb.2.2.1
      · exact fb.2.2.2
  refine Ok.bind (P := fun s => GU D s ∧ ∀ f ∈ v4, (f : P2).2 ∣ s) ?_ fun s ⟨hs, hd⟩ => ?_
  · unfold m_common
    refine Ok.bind (ok_forD (Q := fun (f : P2) s => f.2 ∣ s) (G := GU D) (fun f s s' h d => Int.dvd_trans h d) v4 1 ⟨by decide, Int.one_dvd _⟩ fun f hf s hs => ?_) fun v h => Ok.ret ⟨h.1, h.2.2⟩
    have ff := fm f hf
    have f0 := ff.1
    have fl := ff.le hD
    have sl := hs.le hD
    have s0 := hs.1
    refine Ok.get (show lcmR s f.2 = some ((Nat.lcm s.natAbs f.2.natAbs : Nat) : Int) from if_pos ⟨by have := log2_small (x := s) (k := 100) (by omega); omega, by have := log2_small (x := f.2) (k := 100) (by omega); omega⟩) (Ok.ret ?_)
    obtain ⟨a, b, c, d⟩ := lcm_facts s0 f0 hs.2 ff.2.1
    exact ⟨⟨a, d⟩, b, c⟩
  · have d1 : p.1.2 ∣ s := hd _ (by rw [e4]; simp)
    have d2 : p.2.2 ∣ s := hd _ (by rw [e4]; simp)
    have d3 : ∀ b ∈ bs, DvB s b := fun b hbm => by
      have sub : ∀ f ∈ ([b.1, b.2.1, b.2.2.1, b.2.2.2] : List P2), f.2 ∣ s := fun f hf => hd f (by
        rw [e4]
        exact List.mem_append.mpr (.inr (List.mem_flatMap.mpr ⟨b, hbm, hf⟩)))
      exact ⟨sub _ (by simp), sub _ (by simp), sub _ (by simp), sub _ (by simp)⟩
    refine Ok.get (whole_ok hD hs hp.1) (Ok.get (whole_ok hD hs hp.2) ?_)
    refine Ok.get (v := [] ++ bs.map (relF s p)) (forS_push _ bs [] (by simpa using Nat.le_trans hl (by decide)) fun b s8 hbm h8 => ?_) (Ok.ret ⟨s, by simp, hs, d1, d2, d3⟩)
    have fb := hb b hbm
    rw [whole_ok hD hs fb.1, whole_ok hD hs fb.2.1, whole_ok hD hs fb.2.2.1, whole_ok hD hs fb.2.2.2]
    show (pushR s8 (relF s p b) >>= fun v18 => some v18.2) = _
    rw [pushR_eq h8]; rfl
section
variable {D s unit : Int} {p : P2 × P2} {b : FBx}
theorem relF_sc (hf : FBk D b) (hp : Fd D p.1 ∧ Fd D p.2) (u1 : DvB unit b) (u2 : p.1.2 ∣ unit) (u3 : p.2.2 ∣ unit) (s1 : DvB s b) (s2 : p.1.2 ∣ s) (s3 : p.2.2 ∣ s) : scB unit (relF s p b) = scB s (relF unit p b) := by
  have e1 := wI_rel hf.1.1 u1.1 s1.1
  have e2 := wI_rel hf.2.1.1 u1.2.1 s1.2.1
  have e3 := wI_rel hf.2.2.1.1 u1.2.2.1 s1.2.2.1
  have e4 := wI_rel hf.2.2.2.1 u1.2.2.2 s1.2.2.2
  have e5 := wI_rel hp.1.1 u2 s2
  have e6 := wI_rel hp.2.1 u3 s3
  unfold scB relF rel toI
  dsimp only
  refine Prod.ext ?_ (Prod.ext ?_ (Prod.ext ?_ ?_)) <;> (dsimp only; grind)
end
end Ty

set_option maxHeartbeats 4000000
/-! what is met along a line, by the program and by the laws: plain Lean -/
namespace Ty
open PySem L2
/-! ### fractions of any kind -/
/-- a fraction within bounds -/
def FBd (k : Nat) (f : P2) : Prop := 0 < f.2 ∧ f.1.natAbs ≤ 2 ^ k ∧ f.2 ≤ 2 ^ k
theorem FBd.mono {k k' : Nat} {f : P2} (h : FBd k f) (hk : k ≤ k') : FBd k' f := by
  have := Nat.pow_le_pow_right (n := 2) (by decide) hk
  have e : ((2 ^ k : Nat) : Int) = (2 : Int) ^ k := by simp
  have e' : ((2 ^ k' : Nat) : Int) = (2 : Int) ^ k' := by simp
  exact ⟨h.1, by have := h.2.1; omega, by have := h.2.2; omega⟩
theorem FBd.b {k : Nat} {f : P2} (h : FBd k f) (hk : k ≤ 99) : B100 f.1 ∧ B100 f.2 := by
  have := h.mono hk
  obtain ⟨a, b, c⟩ := this
  have e : (2 : Int) ^ 99 = ((2 ^ 99 : Nat) : Int) := by simp
  constructor
  · show _ < _; omega
  · show _ < _; omega
theorem low_less {n d n' d' : Int} (hd : 0 < d) (hd' : 0 < d') : (lowV n d).1 * (lowV n' d').2 < (lowV n' d').1 * (lowV n d).2 ↔ n * d' < n' * d := by
  have h : d ≠ 0 := by omega
  have h' : d' ≠ 0 := by omega
  obtain ⟨m1, m2⟩ := lowV_mul (n := n) h
  obtain ⟨m3, m4⟩ := lowV_mul (n := n') h'
  have a := lowV_pos (n := n) h
  have b := lowV_pos (n := n') h'
  have s1 : 0 < sgR n d := by unfold sgR; rw [if_neg (by omega)]; exact gcdI_pos h
  have s2 : 0 < sgR n' d' := by unfold sgR; rw [if_neg (by omega)]; exact gcdI_pos h'
  have t : 0 < sgR n d * sgR n' d' := Int.mul_pos s1 s2
  have k1 : (lowV n d).1 * (lowV n' d').2 * (sgR n d * sgR n' d') = n * d' := by grind
  have k2 : (lowV n' d').1 * (lowV n d).2 * (sgR n d * sgR n' d') = n' * d := by grind
  constructor
  · intro q
    have := Int.mul_lt_mul_of_pos_right q t
    rwa [k1, k2] at this
  · intro q
    refine Int.lt_of_mul_lt_mul_right (a := sgR n d * sgR n' d') ?_ (by omega)
    rwa [k1, k2]
theorem low_less_l {n d : Int} {f : P2} (hd : 0 < d) : (lowV n d).1 * f.2 < f.1 * (lowV n d).2 ↔ n * f.2 < f.1 * d := by
  have h : d ≠ 0 := by omega
  obtain ⟨m1, m2⟩ := lowV_mul (n := n) h
  have s1 : 0 < sgR n d := by unfold sgR; rw [if_neg (by omega)]; exact gcdI_pos h
  have k1 : (lowV n d).1 * f.2 * sgR n d = n * f.2 := by grind
  have k2 : f.1 * (lowV n d).2 * sgR n d = f.1 * d := by grind
  constructor
  · intro q
    have := Int.mul_lt_mul_of_pos_right q s1
    rwa [k1, k2] at this
  · intro q
    refine Int.lt_of_mul_lt_mul_right (a := sgR n d) ?_ (by omega)
    rwa [k1, k2]
theorem low_less_r {n d : Int} {f : P2} (hd : 0 < d) : f.1 * (lowV n d).2 < (lowV n d).1 * f.2 ↔ f.1 * d < n * f.2 := by
  have h : d ≠ 0 := by omega
  obtain ⟨m1, m2⟩ := lowV_mul (n := n) h
  have s1 : 0 < sgR n d := by unfold sgR; rw [if_neg (by omega)]; exact gcdI_pos h
  have k1 : (lowV n d).1 * f.2 * sgR n d = n * f.2 := by grind
  have k2 : f.1 * (lowV n d).2 * sgR n d = f.1 * d := by grind
  constructor
  · intro q
    have := Int.mul_lt_mul_of_pos_right q s1
    rwa [k1, k2] at this
  · intro q
    refine Int.lt_of_mul_lt_mul_right (a := sgR n d) ?_ (by omega)
    rwa [k1, k2]
theorem less_eq' {p q : P2} (hp : B100 p.1 ∧ B100 p.2) (hq : B100 q.1 ∧ B100 q.2) : m_is_less p q = some (decide (lessP p q)) := by
  unfold m_is_less
  rw [mulR_s (b100_250 hp.1) (b100_250 hq.2), mulR_s (b100_250 hq.1) (b100_250 hp.2)]; rfl
theorem law_less_eq {p q : P2} (hp : B100 p.1 ∧ B100 p.2) (hq : B100 q.1 ∧ B100 q.2) : m_law_less p q = some (decide (lessP p q)) := less_eq' hp hq
theorem law_most_eq {p q : P2} (hp : B100 p.1 ∧ B100 p.2) (hq : B100 q.1 ∧ B100 q.2) : m_law_most p q = some (decide (p.1 * q.2 ≤ q.1 * p.2)) := by
  unfold m_law_most
  rw [mulR_s (b100_250 hp.1) (b100_250 hq.2), mulR_s (b100_250 hq.1) (b100_250 hp.2)]; rfl
theorem greater_eq {p q : P2} (hp : B100 p.1 ∧ B100 p.2) (hq : B100 q.1 ∧ B100 q.2) : m_greater p q = some (if lessP p q then q else p) := by
  unfold m_greater
  rw [less_eq' hp hq, obind_some, cond_ite]; split <;> rfl
theorem minus_law : m_law_minus = m_minus := by funext p q; unfold m_law_minus m_minus; rw [lowest_low]
def subV (p q : P2) : P2 := lowV (p.1 * q.2 - q.1 * p.2) (p.2 * q.2)
def addV (p q : P2) : P2 := lowV (p.1 * q.2 + q.1 * p.2) (p.2 * q.2)
theorem pow_int (k : Nat) : ((2 ^ k : Nat) : Int) = (2 : Int) ^ k := by simp
theorem prod_b {k l : Nat} {a b : Int} (ha : a.natAbs ≤ 2 ^ k) (hb : b.natAbs ≤ 2 ^ l) : (a * b).natAbs ≤ 2 ^ (k + l) := by
  rw [Int.natAbs_mul, Nat.pow_add]; exact Nat.mul_le_mul ha hb
theorem FBd.n {k : Nat} {f : P2} (h : FBd k f) : f.2.natAbs ≤ 2 ^ k := by
  have a := h.2.2
  have b := h.1
  have e := pow_int k
  omega
theorem low_FBd {k : Nat} {n d : Int} (hn : n.natAbs ≤ 2 ^ k) (hd : 0 < d) (hd2 : d.natAbs ≤ 2 ^ k) : FBd k (lowV n d) := by
  obtain ⟨a, b⟩ := lowV_le (n := n) (d := d) (by omega)
  have c := lowV_pos (n := n) (d := d) (by omega)
  have e := pow_int k
  exact ⟨c, by omega, by omega⟩
theorem minus_eq' {k l : Nat} {p q : P2} (hp : FBd k p) (hq : FBd l q) (hk : k + l ≤ 98) : m_minus p q = some (subV p q) ∧ FBd (k + l + 1) (subV p q) := by
  have bp := hp.b (by omega)
  have bq := hq.b (by omega)
  have h1 := prod_b hp.2.1 hq.n
  have h2 := prod_b hq.2.1 hp.n
  have h3 := prod_b hp.n hq.n
  have pos := Int.mul_pos hp.1 hq.1
  have e1 : 2 ^ (k + l + 1) = 2 * 2 ^ (k + l) := by rw [Nat.pow_succ]; omega
  rw [Nat.add_comm l k] at h2
  have le : 2 ^ (k + l) ≤ 2 ^ 98 := Nat.pow_le_pow_right (by decide) hk
  have key : FBd (k + l + 1) (subV p q) := low_FBd (by omega) pos (by omega)
  refine ⟨?_, key⟩
  unfold m_minus
  rw [mulR_s (b100_250 bp.1) (b100_250 bq.2), mulR_s (b100_250 bq.1) (b100_250 bp.2), mulR_s (b100_250 bp.2) (b100_250 bq.2)]
  show m_lowest _ _ >>= _ = _
  rw [lowest_eq, lowR_eq (by omega) (by omega)]; rfl
theorem law_plus_eq {k l : Nat} {p q : P2} (hp : FBd k p) (hq : FBd l q) (hk : k + l ≤ 98) : m_law_plus p q = some (addV p q) ∧ FBd (k + l + 1) (addV p q) := by
  have bp := hp.b (by omega)
  have bq := hq.b (by omega)
  have h1 := prod_b hp.2.1 hq.n
  have h2 := prod_b hq.2.1 hp.n
  have h3 := prod_b hp.n hq.n
  have pos := Int.mul_pos hp.1 hq.1
  have e1 : 2 ^ (k + l + 1) = 2 * 2 ^ (k + l) := by rw [Nat.pow_succ]; omega
  rw [Nat.add_comm l k] at h2
  have le : 2 ^ (k + l) ≤ 2 ^ 98 := Nat.pow_le_pow_right (by decide) hk
  have key : FBd (k + l + 1) (addV p q) := low_FBd (by omega) pos (by omega)
  refine ⟨?_, key⟩
  unfold m_law_plus
  rw [mulR_s (b100_250 bp.1) (b100_250 bq.2), mulR_s (b100_250 bq.1) (b100_250 bp.2), mulR_s (b100_250 bp.2) (b100_250 bq.2)]
  show m_law_low _ _ >>= _ = _
  rw [low_eq, lowR_eq (by omega) (by omega)]; rfl
/-- the sign of a difference -/
theorem subV_pos {p q : P2} (hp : 0 < p.2) (hq : 0 < q.2) : 0 < (subV p q).1 ↔ lessP q p := by
  have pos := Int.mul_pos hp hq
  have := low_less_r (n := p.1 * q.2 - q.1 * p.2) (d := p.2 * q.2) (f := (0, 1)) pos
  simp only [Int.zero_mul, Int.mul_one] at this
  unfold subV lessP
  rw [this]; omega
/-! ### one line -/
section
variable {D unit u v m : Int} {head : Hd} {placing : Plc} {name : Str}
/-- what is met of some boxes, in the law's numbers -/
def Tm (unit u v : Int) (p : P2 × P2) (bs : List FBx) : Option P2 := firstT (bs.map fun b => ent (relF unit p b) u v)
def numV (unit : Int) (o : Option P2) : Option P2 := o.map fun q => lowV q.1 (q.2 * unit)
def Way (u v : Int) : Prop := u.natAbs ≤ 100 ∧ v.natAbs ≤ 100 ∧ (u ≠ 0 ∨ v ≠ 0)
def UOk (unit : Int) : Prop := 0 < unit ∧ unit ≤ 2 ^ 21
theorem Way.b (h : Way u v) : B100 u ∧ B100 v := ⟨by have := h.1; show _ < _; omega, by have := h.2.1; show _ < _; omega⟩
theorem relF_b {p : P2 × P2} {b : FBx} (hD : DOk D) (hu : UOk unit) (hp : Fd D p.1 ∧ Fd D p.2) (hf : FBk D b) (d : DvB unit b) (d1 : p.1.2 ∣ unit) (d2 : p.2.2 ∣ unit) : BdB (relF unit p b) :=
  rel_b (toI_b hD hf d hu.1 hu.2) (wI_b hD hp.1 d1 hu.1 hu.2) (wI_b hD hp.2 d2 hu.1 hu.2)
theorem Tm_OB {p : P2 × P2} {bs : List FBx} (hD : DOk D) (hu : UOk unit) (hw : Way u v) (hp : Fd D p.1 ∧ Fd D p.2) (hf : ∀ b ∈ bs, FBk D b) (d : ∀ b ∈ bs, DvB unit b) (d1 : p.1.2 ∣ unit) (d2 : p.2.2 ∣ unit) : OB (Tm unit u v p bs) := by
  refine firstT_OB fun t ht => ?_
  obtain ⟨b, hb, rfl⟩ := List.mem_map.mp ht
  exact fun q e => ent_SB (relF_b hD hu hp (hf b hb) (d b hb) d1 d2) hw.b.1 hw.b.2 e
theorem OB.pos {o : Option P2} (h : OB o) : ∀ q, o = some q → 0 < q.2 := fun q e => (h q e).2
/-- the law's own -/
theorem law_met_ok {p : P2 × P2} {bs : List FBx} (hD : DOk D) (hu : UOk unit) (hw : Way u v) (hp : Fd D p.1 ∧ Fd D p.2) (hf : ∀ b ∈ bs, FBk D b) (d : ∀ b ∈ bs, DvB unit b) (d1 : p.1.2 ∣ unit) (d2 : p.2.2 ∣ unit) :
    m_law_met (bs.map (toI unit)) (wI unit p.1) (wI unit p.2) u v = some (Tm unit u v p bs) := by
  rw [met_eq (fun c hc => ?_) hw.b.1 hw.b.2 hw.2.2]
  · rw [List.map_map]; rfl
  · obtain ⟨b, hb, rfl⟩ := List.mem_map.mp hc
    exact relF_b hD hu hp (hf b hb) (d b hb) d1 d2
/-- bounds of a number met -/
theorem ent_len {b : IB} {u v : Int} (hw : Way u v) {q : P2} (e : ent b u v = some q) : q.2 ≤ 100 := by
  have ax : ∀ (step lo hi : Int) (s s' : St2), step.natAbs ≤ 100 → s.1.2 ≤ 100 → axis step lo hi s = some s' → s'.1.2 ≤ 100 := fun step lo hi s s' h1 h2 e => by
    unfold axis at e
    by_cases h0 : step = 0
    · rw [if_pos h0] at e
      split at e
      · cases e
      · cases e; exact h2
    · rw [if_neg h0] at e
      have l : absI step ≤ 100 := by rw [absI_nat]; omega
      generalize (if 0 < step then lo else -hi) = i at *
      generalize (if 0 < step then hi else -lo) = o at *
      generalize absI step = len at *
      by_cases hc : o ≤ 0
      · rw [if_pos hc] at e; cases e
      rw [if_neg hc] at e
      cases e
      show (if _ then _ else _ : P2).2 ≤ 100
      split
      · exact l
      · exact h2
  unfold ent at e
  cases e1 : axis u b.1 b.2.2.1 ((0, 1), none) with
  | none => rw [e1] at e; cases e
  | some s =>
    rw [e1] at e
    have a1 := ax _ _ _ _ _ hw.1 (by decide) e1
    have e : (axis v b.2.1 b.2.2.2 s).bind fin2 = some q := e
    cases e2 : axis v b.2.1 b.2.2.2 s with
    | none => rw [e2] at e; cases e
    | some s' =>
      rw [e2] at e
      have a2 := ax _ _ _ _ _ hw.2.1 a1 e2
      have e : fin2 s' = some q := e
      unfold fin2 at e
      split at e
      · cases e
      · split at e
        · cases e
        · cases e; exact a2
/-- a met number's bounds: nominator, denominator -/
def NB (o : Option P2) : Prop := ∀ q, o = some q → 0 < q.2 ∧ q.2 ≤ 100 ∧ q.1.natAbs ≤ 2 ^ 53
theorem ent_num {b : IB} {u v : Int} (hb : b.1.natAbs ≤ 2 ^ 53 ∧ b.2.1.natAbs ≤ 2 ^ 53 ∧ b.2.2.1.natAbs ≤ 2 ^ 53 ∧ b.2.2.2.natAbs ≤ 2 ^ 53) {q : P2} (e : ent b u v = some q) : q.1.natAbs ≤ 2 ^ 53 := by
  have ax : ∀ (step lo hi : Int) (s s' : St2), lo.natAbs ≤ 2 ^ 53 → hi.natAbs ≤ 2 ^ 53 → s.1.1.natAbs ≤ 2 ^ 53 → axis step lo hi s = some s' → s'.1.1.natAbs ≤ 2 ^ 53 := fun step lo hi s s' h1 h1' h2 e => by
    unfold axis at e
    by_cases h0 : step = 0
    · rw [if_pos h0] at e
      split at e
      · cases e
      · cases e; exact h2
    · rw [if_neg h0] at e
      have l : (if 0 < step then lo else -hi).natAbs ≤ 2 ^ 53 := by split <;> omega
      generalize (if 0 < step then lo else -hi) = i at *
      generalize (if 0 < step then hi else -lo) = o at *
      by_cases hc : o ≤ 0
      · rw [if_pos hc] at e; cases e
      rw [if_neg hc] at e
      cases e
      show (if _ then _ else _ : P2).1.natAbs ≤ _
      split
      · exact l
      · exact h2
  unfold ent at e
  cases e1 : axis u b.1 b.2.2.1 ((0, 1), none) with
  | none => rw [e1] at e; cases e
  | some s =>
    rw [e1] at e
    have a1 := ax _ _ _ _ _ hb.1 hb.2.2.1 (by decide) e1
    have e : (axis v b.2.1 b.2.2.2 s).bind fin2 = some q := e
    cases e2 : axis v b.2.1 b.2.2.2 s with
    | none => rw [e2] at e; cases e
    | some s' =>
      rw [e2] at e
      have a2 := ax _ _ _ _ _ hb.2.1 hb.2.2.2 a1 e2
      have e : fin2 s' = some q := e
      unfold fin2 at e
      split at e
      · cases e
      · split at e
        · cases e
        · cases e; exact a2
theorem better_NB {t s : Option P2} (ht : NB t) (hs : NB s) : NB (better t s) := by
  intro p e
  cases t with
  | none => exact hs p e
  | some q => cases s with
    | none => cases e; exact ht _ rfl
    | some w =>
      have e : (if q.1 * w.2 < w.1 * q.2 then some q else some w) = some p := e
      split at e
      · cases e; exact ht _ rfl
      · cases e; exact hs _ rfl
theorem firstT_NB {ts : List (Option P2)} (h : ∀ t ∈ ts, NB t) : NB (firstT ts) := by
  unfold firstT
  have : ∀ (ts : List (Option P2)) (s : Option P2), (∀ t ∈ ts, NB t) → NB s → NB (ts.foldl (fun s t => better t s) s) := by
    intro ts
    induction ts with
    | nil => intro s _ hs; exact hs
    | cons t ts ih => intro s h hs; exact ih _ (fun t' h' => h t' (List.mem_cons_of_mem _ h')) (better_NB (h t (List.mem_cons_self ..)) hs)
  exact this ts none h fun _ h => nomatch h
theorem NB.OB {o : Option P2} (h : NB o) : OB o := fun q e => by
  obtain ⟨a, b, c⟩ := h q e
  refine ⟨⟨?_, ?_⟩, a⟩
  · show _ < _; omega
  · show _ < _; omega
theorem Tm_NB {p : P2 × P2} {bs : List FBx} (hD : DOk D) (hu : UOk unit) (hw : Way u v) (hp : Fd D p.1 ∧ Fd D p.2) (hf : ∀ b ∈ bs, FBk D b) (d : ∀ b ∈ bs, DvB unit b) (d1 : p.1.2 ∣ unit) (d2 : p.2.2 ∣ unit) : NB (Tm unit u v p bs) := by
  refine firstT_NB fun t ht => ?_
  obtain ⟨b, hb, rfl⟩ := List.mem_map.mp ht
  intro q e
  obtain ⟨⟨_, _⟩, pos⟩ := ent_SB (relF_b hD hu hp (hf b hb) (d b hb) d1 d2) hw.b.1 hw.b.2 e
  refine ⟨pos, ent_len hw e, ent_num ?_ e⟩
  obtain ⟨t1, t2, t3, t4⟩ := toI_b hD (hf b hb) (d b hb) hu.1 hu.2
  have w1 := wI_b hD hp.1 d1 hu.1 hu.2
  have w2 := wI_b hD hp.2 d2 hu.1 hu.2
  unfold relF rel
  dsimp only
  refine ⟨?_, ?_, ?_, ?_⟩ <;> omega
/-- .. as a fraction -/
theorem numV_FBd {o : Option P2} (hu : UOk unit) (h : NB o) : ∀ f, numV unit o = some f → FBd 53 f := fun f e => by
  cases o with
  | none => cases e
  | some q =>
    cases e
    obtain ⟨a, b, c⟩ := h q rfl
    have pos := Int.mul_pos a hu.1
    have u2 := hu.2
    have u1 := hu.1
    have le : q.2 * unit ≤ 100 * 2 ^ 21 := Int.mul_le_mul b u2 (by omega) (by decide)
    exact low_FBd c pos (by omega)
theorem line_number_ok {o : Option P2} (hu : UOk unit) (h : NB o) {W : Wld} (hW : W.2.1 = unit) : m_law_line_number W o = some (numV unit o) := by
  cases o with
  | none => rfl
  | some q =>
    obtain ⟨a, b, c⟩ := h q rfl
    have pos := Int.mul_pos a hu.1
    have u2 := hu.2
    have u1 := hu.1
    have le : q.2 * unit ≤ 100 * 2 ^ 21 := Int.mul_le_mul b u2 (by omega) (by decide)
    show (mulR q.2 W.2.1 >>= fun v3 => m_law_low q.1 v3 >>= fun v4 => some (some v4)) = _
    rw [hW, mulR_s (by omega) (by omega), obind_some, low_eq, lowR_eq (by omega) (by omega)]; rfl
/-- the program's -/
theorem told_ok {p : P2 × P2} {bs : List FBx} {s : Int} (hD : DOk D) (hu : UOk unit) (hw : Way u v) (hp : Fd D p.1 ∧ Fd D p.2) (hf : ∀ b ∈ bs, FBk D b) (d : ∀ b ∈ bs, DvB unit b) (d1 : p.1.2 ∣ unit) (d2 : p.2.2 ∣ unit)
    (hs : GU D s) (e : ∀ b ∈ bs, DvB s b) (e1 : p.1.2 ∣ s) (e2 : p.2.2 ∣ s) : m_told_number (Tm s u v p bs) s = some (numV unit (Tm unit u v p bs)) := by
  have us : UOk s := ⟨hs.1, by have := hs.le hD; omega⟩
  have sc : (Tm s u v p bs).map (scP unit) = (Tm unit u v p bs).map (scP s) := by
    unfold Tm
    rw [← firstT_sc hu.1, ← firstT_sc hs.1, List.map_map, List.map_map]
    congr 1
    refine List.map_congr_left fun b hb => ?_
    show Option.map (scP unit) (ent (relF s p b) u v) = Option.map (scP s) (ent (relF unit p b) u v)
    rw [← ent_sc hu.1, ← ent_sc hs.1, relF_sc (hf b hb) hp (d b hb) d1 d2 (e b hb) e1 e2]
  have n1 := Tm_NB hD us hw hp hf e e1 e2
  have n2 := Tm_NB hD hu hw hp hf d d1 d2
  cases h1 : Tm s u v p bs with
  | none =>
    rw [h1] at sc
    cases h2 : Tm unit u v p bs with
    | none => rfl
    | some q => rw [h2] at sc; cases sc
  | some q1 =>
    rw [h1] at sc
    cases h2 : Tm unit u v p bs with
    | none => rw [h2] at sc; cases sc
    | some q2 =>
      rw [h2] at sc
      have sc : (unit * q1.1, q1.2) = (s * q2.1, q2.2) := Option.some.inj sc
      obtain ⟨c1, c2⟩ := Prod.mk.inj sc
      obtain ⟨a, b, c⟩ := n1 q1 h1
      obtain ⟨a', b', c'⟩ := n2 q2 h2
      have s1 := us.1
      have s2 := us.2
      have u1 := hu.1
      have u2 := hu.2
      have le : q1.2 * s ≤ 100 * 2 ^ 21 := Int.mul_le_mul b s2 (by omega) (by decide)
      have pos := Int.mul_pos a s1
      have pos2 := Int.mul_pos a' u1
      show (mulR q1.2 s >>= fun v3 => m_lowest q1.1 v3 >>= fun v4 => some (some v4)) = some (some (lowV q2.1 (q2.2 * unit)))
      rw [mulR_s (by omega) (by omega), obind_some, lowest_eq, lowR_eq (by omega) (by omega), obind_some]
      congr 2
      refine lowV_eq (by omega) (by omega) ?_
      grind
theorem met_at_ok {p : P2 × P2} {bs : List FBx} (hD : DOk D) (hu : UOk unit) (hw : Way u v) (hp : Fd D p.1 ∧ Fd D p.2) (hf : ∀ b ∈ bs, FBk D b) (hl : bs.length ≤ 1000) (d : ∀ b ∈ bs, DvB unit b) (d1 : p.1.2 ∣ unit) (d2 : p.2.2 ∣ unit) :
    m_met_at bs p (u, v) = some (numV unit (Tm unit u v p bs)) := by
  refine Ok.eq ?_
  unfold m_met_at
  refine (around_ok hD hp hf hl).bind fun r ⟨s, e, hs, s1, s2, s3⟩ => ?_
  subst e
  have us : UOk s := ⟨hs.1, by have := hs.le hD; omega⟩
  refine Ok.get (v := Tm s u v p bs) ?_ (Ok.get (told_ok hD hu hw hp hf d d1 d2 hs s3 s1 s2) (Ok.ret rfl))
  rw [first_entry_eq (fun c hc => ?_) hw.b.1 hw.b.2 hw.2.2]
  · rw [List.map_map]; rfl
  · obtain ⟨b, hb, rfl⟩ := List.mem_map.mp hc
    exact relF_b hD us hp (hf b hb) (s3 b hb) s1 s2
end
end Ty

set_option maxHeartbeats 4000000
/-! first things along a line, what looks say: plain Lean -/
namespace Ty
open PySem L2
def lessO (a b : Option P2) : Bool := match a, b with
  | none, _ => false
  | some _, none => true
  | some p, some q => decide (lessP p q)
theorem line_less_eq {a b : Option P2} (ha : OB a) (hb : OB b) : m_law_line_less a b = some (lessO a b) := by
  unfold m_law_line_less lessO
  cases a with
  | none => rfl
  | some p => cases b with
    | none => rfl
    | some q =>
      obtain ⟨⟨p1, p2⟩, _⟩ := ha p rfl
      obtain ⟨⟨q1, q2⟩, _⟩ := hb q rfl
      show ((mulR p.1 q.2 >>= fun v3 => mulR q.1 p.2 >>= fun v6 => some (decide (v3 < v6))) >>= fun c7 => some c7) = _
      rw [mulR_s (b100_250 p1) (b100_250 q2), mulR_s (b100_250 q1) (b100_250 p2)]; rfl
theorem lessO_first {ts : List (Option P2)} {q : P2} (h : ∀ t ∈ ts, OB t) (hq : 0 < q.2) : lessO (firstT ts) (some q) = true ↔ ∃ p, some p ∈ ts ∧ lessP p q := by
  have hp : ∀ t ∈ ts, ∀ p, t = some p → 0 < p.2 := fun t ht p e => (h t ht p e).2
  cases e : firstT ts with
  | none =>
    have := firstT_none hp e
    constructor
    · intro z; cases z
    · rintro ⟨p, hm, _⟩; have := this _ hm; cases this
  | some r =>
    obtain ⟨r0, r1, r2⟩ := firstT_some hp e
    show decide (lessP r q) = true ↔ _
    rw [decide_eq_true_eq]
    constructor
    · intro z; exact ⟨r, r1, z⟩
    · rintro ⟨p, hm, z⟩
      exact lessP_trans r0 (hp _ hm p rfl) hq (r2 _ hm p rfl) z
theorem firsts_ok {x y u v : Int} (τ : Str × List IB → Option P2) : ∀ (L : List (Str × List IB)) (s : Option P2 × List Str), s.2.length + L.length ≤ 1000000 → OB s.1 → (∀ c ∈ L, m_law_met c.2 x y u v = some (τ c) ∧ OB (τ c)) →
    Ok (forS L s (fun x2 (s1 : ((Option (Int × Int)) × (List Str))) => m_law_met x2.2 x y u v >>= fun v3 =>
 ((cond v3.isSome (m_law_line_less s1.1 v3 >>= fun v5 =>
 some (!v5)) (some false)) >>= fun c6 =>
 cond c6 ((m_law_line_less v3 s1.1 >>= fun v8 =>
 cond v8 (some (v3, ([] : (List Str)))) (some (s1.1, s1.2))) >>= fun s7 =>
 pushR s7.2 x2.1 >>= fun v9 =>
 some (s7.1, v9.2)) (some (s1.1, s1.2))) >>= fun s4 =>
 some (s4.1, s4.2))) fun r => r.1 = L.foldl (fun s c => better (τ c) s) s.1 ∧ (∀ n ∈ r.2, n ∈ s.2 ∨ n ∈ L.map (·.1)) ∧ r.2.length ≤ s.2.length + L.length
  | [], s, _, _, _ => ⟨s, rfl, rfl, fun n h => .inl h, by simp⟩
  | c :: L, (best, names), hl, hs, h => by
    obtain ⟨e, ho⟩ := h c (List.mem_cons_self ..)
    have hl : names.length + (L.length + 1) ≤ 1000000 := hl
    have hs : OB best := hs
    refine Ok.bind (P := fun s' => s'.1 = better (τ c) best ∧ (∀ n ∈ s'.2, n ∈ names ∨ n = c.1) ∧ s'.2.length ≤ names.length + 1) (Ok.get e ?_) fun s' ⟨a, b, d⟩ => ?_
    · cases ht : τ c with
      | none => exact ⟨(best, names), rfl, rfl, fun n hn => .inl hn, by simp⟩
      | some q =>
        rw [ht] at ho
        show Ok (((m_law_line_less best (some q) >>= fun v5 => some (!v5)) >>= fun c6 => _) >>= _) _
        rw [line_less_eq hs ho]
        show Ok ((cond (!lessO best (some q)) ((m_law_line_less (some q) best >>= fun v8 => cond v8 (some (some q, ([] : List Str))) (some (best, names))) >>= fun s7 => pushR s7.2 c.1 >>= fun v9 => some (s7.1, v9.2)) (some (best, names))) >>= fun s4 => some (s4.1, s4.2)) _
        rw [line_less_eq ho hs]
        show Ok ((cond (!lessO best (some q)) ((cond (lessO (some q) best) (some (some q, ([] : List Str))) (some (best, names))) >>= fun s7 => pushR s7.2 c.1 >>= fun v9 => some (s7.1, v9.2)) (some (best, names))) >>= fun s4 => some (s4.1, s4.2)) _
        cases best with
        | none => exact ⟨(some q, [c.1]), rfl, rfl, fun n hn => .inr (by simpa using hn), by simp⟩
        | some p =>
          show Ok ((cond (!decide (lessP p q)) ((cond (decide (lessP q p)) (some (some q, ([] : List Str))) (some (some p, names))) >>= fun s7 => pushR s7.2 c.1 >>= fun v9 => some (s7.1, v9.2)) (some (some p, names))) >>= fun s4 => some (s4.1, s4.2)) fun s' => s'.1 = (if lessP q p then some q else some p) ∧ _
          by_cases h1 : lessP p q
          · have h2 : ¬ lessP q p := by unfold lessP at *; omega
            rw [decide_eq_true h1, if_neg h2]
            exact ⟨(some p, names), rfl, rfl, fun n hn => .inl hn, by simp⟩
          · rw [decide_eq_false h1]
            by_cases h2 : lessP q p
            · rw [decide_eq_true h2, if_pos h2]
              exact ⟨(some q, [c.1]), rfl, rfl, fun n hn => .inr (by simpa using hn), by simp⟩
            · rw [decide_eq_false h2, if_neg h2]
              show Ok (((some (some p, names) : Option (Option P2 × List Str)) >>= fun s7 => pushR s7.2 c.1 >>= fun v9 => some (s7.1, v9.2)) >>= fun s4 => some (s4.1, s4.2)) _
              rw [obind_some]
              dsimp only
              rw [pushR_eq (show names.length < 1000000 by omega)]
              exact ⟨(some p, names ++ [c.1]), rfl, rfl, fun n hn => by rcases List.mem_append.mp hn with h | h; exact .inl h; exact .inr (by simpa using h), by simp⟩
    · obtain ⟨b1, n1⟩ := s'
      have a : b1 = better (τ c) best := a
      subst a
      refine (firsts_ok τ L (better (τ c) best, n1) (by have d : n1.length ≤ _ := d; show n1.length + L.length ≤ _; omega) (better_OB ho hs) fun c' hc' => h c' (List.mem_cons_of_mem _ hc')).imp fun r ⟨r1, r2, r3⟩ => ⟨r1, fun n hn => ?_, ?_⟩
      · rcases r2 n hn with h | h
        · rcases b n h with h | rfl
          · exact .inl h
          · exact .inr (by simp)
        · exact .inr (by simp at h ⊢; exact .inr h)
      · have d : n1.length ≤ names.length + 1 := d
        have r3 : r.2.length ≤ n1.length + L.length := r3
        show r.2.length ≤ names.length + (L.length + 1); omega
theorem line_firsts_ok {x y u v : Int} (τ : Str × List IB → Option P2) {L : List (Str × List IB)} (hl : L.length ≤ 1000) (h : ∀ c ∈ L, m_law_met c.2 x y u v = some (τ c) ∧ OB (τ c)) :
    Ok (m_law_line_firsts L x y u v) fun r => r.2 = firstT (L.map τ) ∧ (∀ n ∈ r.1, n ∈ L.map (·.1)) ∧ r.1.length ≤ L.length := by
  unfold m_law_line_firsts
  refine (firsts_ok τ L (none, []) (by show 0 + L.length ≤ _; omega) (fun _ h => nomatch h) h).bind fun r ⟨a, b, c⟩ => Ok.ret ⟨?_, fun n hn => ?_, ?_⟩
  · show r.1 = _
    rw [a]; unfold firstT; rw [List.foldl_map]
  · rcases b n hn with h | h
    · cases h
    · exact h
  · simpa using c
/-! ### the scene -/
def solidsV (head : Hd) : List Str := (head.2.2.2.filter fun t => decide (t.2.1 ∈ (["body", "upright", "lying"] : List Str))).map (·.1)
section
variable {D unit u v m : Int} {head : Hd} {placing : Plc} {name : Str}
def spotV (head : Hd) (placing : Plc) (name : Str) (m : Int) : P2 × P2 := ((b0Of head placing name m).1, (b0Of head placing name m).2.1)
def wdV (head : Hd) (unit : Int) (placing : Plc) : Wld := (head, unit, placing.map fun p => p.map (toI unit))
/-- all that a line is asked in -/
structure Ln (D unit : Int) (head : Hd) (placing : Plc) (name : Str) (m u v : Int) : Prop where
  S : Scn D head placing
  U : UOk unit
  dv : ∀ p ∈ placing, ∀ b ∈ p, DvB unit b
  nm : name ∈ head.2.2.2.map (·.1)
  m0 : 0 ≤ m
  m1 : m < head.2.2.1
  w : Way u v
def tnV (head : Hd) (placing : Plc) (unit : Int) (name : Str) (m u v : Int) (n : Str) : Option P2 := Tm unit u v (spotV head placing name m) (bsOf head placing n m)
variable (L : Ln D unit head placing name m u v)
include L
theorem Ln.b0 {n : Str} (hn : n ∈ head.2.2.2.map (·.1)) : FBk D (b0Of head placing n m) ∧ DvB unit (b0Of head placing n m) := by
  obtain ⟨rest, e⟩ := b0_mem L.S hn L.m0 L.m1
  have hm : b0Of head placing n m ∈ bsOf head placing n m := by rw [e]; exact List.mem_cons_self ..
  refine ⟨bs_F L.S hn L.m0 L.m1 _ hm, ?_⟩
  obtain ⟨p, hp, hb⟩ := (bs_ok L.S hn L.m0 L.m1).2.2.2.2.1 _ hm
  exact L.dv p hp _ hb
theorem Ln.sp : (Fd D (spotV head placing name m).1 ∧ Fd D (spotV head placing name m).2) ∧ (spotV head placing name m).1.2 ∣ unit ∧ (spotV head placing name m).2.2 ∣ unit := by
  obtain ⟨a, b⟩ := L.b0 L.nm
  exact ⟨⟨a.1, a.2.1⟩, b.1, b.2.1⟩
theorem Ln.bs {n : Str} (hn : n ∈ head.2.2.2.map (·.1)) : (∀ b ∈ bsOf head placing n m, FBk D b) ∧ (∀ b ∈ bsOf head placing n m, DvB unit b) ∧ (bsOf head placing n m).length ≤ 1000 := by
  refine ⟨bs_F L.S hn L.m0 L.m1, fun b hb => ?_, (bs_ok L.S hn L.m0 L.m1).2.2.2.1⟩
  obtain ⟨p, hp, hb⟩ := (bs_ok L.S hn L.m0 L.m1).2.2.2.2.1 b hb
  exact L.dv p hp b hb
theorem Ln.tn_NB {n : Str} (hn : n ∈ head.2.2.2.map (·.1)) : NB (tnV head placing unit name m u v n) := by
  obtain ⟨a, b, c⟩ := L.bs hn
  obtain ⟨d, e, f⟩ := L.sp
  exact Tm_NB L.S.dok L.U L.w d a b e f
theorem Ln.place {n : Str} (hn : n ∈ head.2.2.2.map (·.1)) : m_law_place (wdV head unit placing) (n, m) = some ((bsOf head placing n m).map (toI unit)) := (bs_ok L.S hn L.m0 L.m1).2.1 unit
theorem Ln.met {n : Str} (hn : n ∈ head.2.2.2.map (·.1)) : m_law_met ((bsOf head placing n m).map (toI unit)) (wI unit (spotV head placing name m).1) (wI unit (spotV head placing name m).2) u v = some (tnV head placing unit name m u v n) := by
  obtain ⟨a, b, c⟩ := L.bs hn
  obtain ⟨d, e, f⟩ := L.sp
  exact law_met_ok L.S.dok L.U L.w d a b e f
theorem Ln.metP {n : Str} (hn : n ∈ head.2.2.2.map (·.1)) : m_met_at (bsOf head placing n m) (spotV head placing name m) (u, v) = some (numV unit (tnV head placing unit name m u v n)) := by
  obtain ⟨a, b, c⟩ := L.bs hn
  obtain ⟨d, e, f⟩ := L.sp
  exact met_at_ok L.S.dok L.U L.w d a c b e f
omit L in
theorem sol_mem {n : Str} (h : n ∈ solidsV head) : n ∈ head.2.2.2.map (·.1) := by
  unfold solidsV at h
  obtain ⟨t, ht, rfl⟩ := List.mem_map.mp h
  exact List.mem_map.mpr ⟨t, (List.mem_filter.mp ht).1, rfl⟩
theorem Ln.sol_one {n : Str} (h : n ∈ solidsV head) : bsOf head placing n m = [b0Of head placing n m] := by
  obtain ⟨rest, e⟩ := b0_mem L.S (sol_mem h) L.m0 L.m1
  unfold solidsV at h
  obtain ⟨t, ht, rfl⟩ := List.mem_map.mp h
  obtain ⟨h1, h2⟩ := List.mem_filter.mp ht
  have l := (bs_ok L.S (sol_mem (by unfold solidsV; exact h)) L.m0 L.m1).2.2.2.2.2 t h1 rfl (fun z => by rw [z] at h2; exact absurd h2 (by decide))
  rw [e] at l ⊢
  have : rest = [] := List.eq_nil_of_length_eq_zero (by simpa using l)
  rw [this]
theorem Ln.sol_few : (solidsV head).length ≤ 100 := by
  unfold solidsV
  rw [List.length_map]
  exact Nat.le_trans (List.length_filter_le ..) L.S.few
omit L in
theorem solids_of_eq : m_solids_of head = some (solidsV head) := by
  unfold m_solids_of m_is_solid
  exact Ok.eq (Ok.get (fltR_eq' (fun t => decide (t.2.1 ∈ (["body", "upright", "lying"] : List Str))) (·.1) _ (fun x _ => rfl) (fun x _ => rfl)) (Ok.ret rfl))
omit L in
theorem law_solids_eq {W : Wld} (h : W.1 = head) : m_law_solids W = some (solidsV head) := by
  unfold m_law_solids
  rw [h]
  exact Ok.eq (Ok.get (fltR_eq' (fun t => decide (t.2.1 ∈ (["body", "upright", "lying"] : List Str))) (·.1) _ (fun x _ => rfl) (fun x _ => rfl)) (Ok.ret rfl))
theorem Ln.line_solids : m_law_line_solids (wdV head unit placing) m = some ((solidsV head).map fun n => (n, (bsOf head placing n m).map (toI unit))) := by
  unfold m_law_line_solids
  rw [law_solids_eq rfl, obind_some, mapR_eq' (fun n => (n, (bsOf head placing n m).map (toI unit))) _ fun n hn => by rw [L.place (sol_mem hn)]; rfl]; rfl
/-- the law's firsts -/
theorem Ln.line_firsts {P : Str → Bool} : Ok (m_law_line_firsts (((solidsV head).filter P).map fun n => (n, (bsOf head placing n m).map (toI unit))) (wI unit (spotV head placing name m).1) (wI unit (spotV head placing name m).2) u v)
    fun r => r.2 = firstT (((solidsV head).filter P).map (tnV head placing unit name m u v)) ∧ (∀ n ∈ r.1, n ∈ solidsV head) ∧ r.1.length ≤ 100 := by
  have few : ((solidsV head).filter P).length ≤ 100 := Nat.le_trans (List.length_filter_le ..) L.sol_few
  refine (line_firsts_ok (fun c => tnV head placing unit name m u v c.1) (by rw [List.length_map]; omega) fun c hc => ?_).imp fun r ⟨a, b, d⟩ => ⟨?_, fun n hn => ?_, by rw [List.length_map] at d; omega⟩
  · obtain ⟨n, hn, rfl⟩ := List.mem_map.mp hc
    have hs := (List.mem_filter.mp hn).1
    exact ⟨L.met (sol_mem hs), (L.tn_NB (sol_mem hs)).OB⟩
  · rw [a, List.map_map]; rfl
  · have := b n hn
    rw [List.map_map] at this
    obtain ⟨n', hn', rfl⟩ := List.mem_map.mp this
    exact (List.mem_filter.mp hn').1
def firstV (head : Hd) (placing : Plc) (unit : Int) (name : Str) (m u v : Int) : Option P2 := firstT ((solidsV head).map (tnV head placing unit name m u v))
theorem Ln.first_NB : NB (firstV head placing unit name m u v) := firstT_NB fun t ht => by
  obtain ⟨n, hn, rfl⟩ := List.mem_map.mp ht
  exact L.tn_NB (sol_mem hn)
omit L in
theorem among_ok {u v : Int} (hw : Way u v) : ∀ (Z : List (Str × IB)) (s : List Str × Option P2), s.1.length + Z.length ≤ 1000000 → OB s.2 → (∀ z ∈ Z, BdB z.2) →
    Ok (forS Z s (fun x2 (s1 : ((List Str) × (Option (Int × Int)))) => m_entry x2.2 (u, v) >>= fun v3 =>
 cond v3.isNone (some (s1.1, s1.2)) (((cond s1.2.isNone (some true) (v3 >>= fun v5 =>
 s1.2 >>= fun v6 =>
 m_is_sooner v5 v6 >>= fun v7 =>
 some v7)) >>= fun c8 =>
 cond c8 (some ([x2.1], v3)) ((s1.2 >>= fun v10 =>
 v3 >>= fun v11 =>
 m_is_sooner v10 v11 >>= fun v12 =>
 cond (!v12) (pushR s1.1 x2.1 >>= fun v13 =>
 some v13.2) (some s1.1)) >>= fun s9 =>
 some (s9, s1.2))) >>= fun s4 =>
 some (s4.1, s4.2)))) fun r => r.2 = Z.foldl (fun s z => better (ent z.2 u v) s) s.2
  | [], s, _, _, _ => ⟨s, rfl, rfl⟩
  | z :: Z, (found, least), hl, hs, h => by
    have hl : found.length + (Z.length + 1) ≤ 1000000 := hl
    have hs : OB least := hs
    have hz := h z (List.mem_cons_self ..)
    have he : OB (ent z.2 u v) := fun p e => ent_SB hz hw.b.1 hw.b.2 e
    refine Ok.bind (P := fun s' => s'.2 = better (ent z.2 u v) least ∧ s'.1.length ≤ found.length + 1) (Ok.get (entry_eq hz hw.b.1 hw.b.2 hw.2.2) ?_) fun s' ⟨a, d⟩ => ?_
    · cases ht : ent z.2 u v with
      | none => exact ⟨(found, least), rfl, rfl, by simp⟩
      | some q =>
        rw [ht] at he
        obtain ⟨⟨q1, q2⟩, _⟩ := he q rfl
        cases least with
        | none => exact ⟨([z.1], some q), rfl, rfl, by simp⟩
        | some p =>
          obtain ⟨⟨p1, p2⟩, _⟩ := hs p rfl
          show Ok (((m_is_sooner q p >>= fun v7 => some v7) >>= fun c8 => cond c8 (some ([z.1], some q)) ((m_is_sooner p q >>= fun v12 => cond (!v12) (pushR found z.1 >>= fun v13 => some v13.2) (some found)) >>= fun s9 => some (s9, some p))) >>= fun s4 => some (s4.1, s4.2)) fun s' => s'.2 = (if q.1 * p.2 < p.1 * q.2 then some q else some p) ∧ _
          rw [sooner_eq q1 q2 p1 p2, sooner_eq p1 p2 q1 q2]
          show Ok ((cond (decide (q.1 * p.2 < p.1 * q.2)) (some ([z.1], some q)) ((cond (!decide (p.1 * q.2 < q.1 * p.2)) (pushR found z.1 >>= fun v13 => some v13.2) (some found)) >>= fun s9 => some (s9, some p))) >>= fun s4 => some (s4.1, s4.2)) _
          by_cases h1 : q.1 * p.2 < p.1 * q.2
          · rw [decide_eq_true h1, if_pos h1]
            exact ⟨([z.1], some q), rfl, rfl, by simp⟩
          · rw [decide_eq_false h1, if_neg h1, pushR_eq (by omega)]
            cases decide (p.1 * q.2 < q.1 * p.2) with
            | true => exact ⟨(found, some p), rfl, rfl, by simp⟩
            | false => exact ⟨(found ++ [z.1], some p), rfl, rfl, by simp⟩
    · obtain ⟨f1, l1⟩ := s'
      have a : l1 = better (ent z.2 u v) least := a
      subst a
      have d : f1.length ≤ found.length + 1 := d
      exact among_ok hw Z (f1, better (ent z.2 u v) least) (by show f1.length + Z.length ≤ _; omega) (better_OB he hs) fun z' hz' => h z' (List.mem_cons_of_mem _ hz')
/-- the program's firsts -/
theorem Ln.firsts_of : Ok (m_firsts_of head placing (name, m) (u, v)) fun r => r.2 = numV unit (firstV head placing unit name m u v) := by
  unfold m_firsts_of
  refine Ok.get solids_of_eq (Ok.get (spot_at_ok L.S L.nm L.m0 L.m1) ?_)
  have hb : m_boxes_at head placing m (solidsV head) = some ((solidsV head).map fun n => b0Of head placing n m) := by
    unfold m_boxes_at
    rw [mapR_eq' (fun n => b0Of head placing n m) _ fun n hn => by rw [box_of_ok L.S (sol_mem hn) L.m0 L.m1]; rfl]; rfl
  refine Ok.get hb ?_
  obtain ⟨sp, d1, d2⟩ := L.sp
  have hF : ∀ b ∈ (solidsV head).map fun n => b0Of head placing n m, FBk D b := fun b hb => by
    obtain ⟨n, hn, rfl⟩ := List.mem_map.mp hb
    exact (L.b0 (sol_mem hn)).1
  have hV : ∀ b ∈ (solidsV head).map fun n => b0Of head placing n m, DvB unit b := fun b hb => by
    obtain ⟨n, hn, rfl⟩ := List.mem_map.mp hb
    exact (L.b0 (sol_mem hn)).2
  have few := L.sol_few
  refine (around_ok L.S.dok sp hF (by rw [List.length_map]; omega)).bind fun r ⟨s, e, hs, s1, s2, s3⟩ => ?_
  subst e
  have us : UOk s := ⟨hs.1, by have := hs.le L.S.dok; omega⟩
  refine Ok.bind (P := fun r => r.2 = Tm s u v (spotV head placing name m) ((solidsV head).map fun n => b0Of head placing n m)) ?_ fun r er => ?_
  · unfold m_firsts_among
    refine (among_ok L.w _ ([], none) (by rw [List.length_zip, List.length_map, List.length_map]; show 0 + _ ≤ _; omega) (fun _ h => nomatch h) fun z hz => ?_).bind fun r er => Ok.ret ?_
    · have := (List.of_mem_zip hz).2
      obtain ⟨b, hb, e⟩ := List.mem_map.mp this
      rw [← e]
      exact relF_b L.S.dok us sp (hF b hb) (s3 b hb) s1 s2
    · show r.2 = _
      rw [er]
      unfold Tm firstT
      have ez : ((solidsV head).zip (((solidsV head).map fun n => b0Of head placing n m).map (relF s (spotV head placing name m)))).map Prod.snd = ((solidsV head).map fun n => b0Of head placing n m).map (relF s (spotV head placing name m)) := List.map_snd_zip (by simp)
      rw [List.foldl_map]
      have : ∀ (Z : List (Str × IB)) (s0 : Option P2), Z.foldl (fun s z => better (ent z.2 u v) s) s0 = (Z.map Prod.snd).foldl (fun s b => better (ent b u v) s) s0 := fun Z s0 => by rw [List.foldl_map]
      rw [this]
      show List.foldl _ none (((solidsV head).zip (((solidsV head).map fun n => b0Of head placing n m).map (relF s (spotV head placing name m)))).map Prod.snd) = _
      rw [ez, List.foldl_map]
  · rw [er]
    refine Ok.get (told_ok L.S.dok L.U L.w sp hF hV d1 d2 hs s3 s1 s2) (Ok.ret ?_)
    show numV unit (Tm unit u v _ _) = _
    congr 1
    unfold Tm firstV
    rw [List.map_map]
    congr 1
    refine List.map_congr_left fun n hn => ?_
    show ent _ u v = tnV head placing unit name m u v n
    unfold tnV Tm
    rw [L.sol_one hn]
    show _ = better (ent _ u v) none
    cases ent (relF unit (spotV head placing name m) (b0Of head placing n m)) u v <;> rfl
/-! ### what looks say -/
omit L in
theorem forS_met {f : Str → List P2 → Option (List P2)} (τ : Str → Option P2) : ∀ (xs : List Str) (s : List P2), s.length + xs.length ≤ 1000000 → (∀ n ∈ xs, ∀ s, s.length < 1000000 → f n s = some (match τ n with | none => s | some t => s ++ [t])) → forS xs s f = some (s ++ xs.filterMap τ)
  | [], s, _, _ => by simp [forS]
  | x :: xs, s, hl, h => by
    have hl : s.length + (xs.length + 1) ≤ 1000000 := hl
    show (f x s >>= fun s' => forS xs s' f) = _
    rw [h x (List.mem_cons_self ..) s (by omega), obind_some]
    cases e : τ x with
    | none =>
      dsimp only
      rw [forS_met τ xs s (by omega) fun n hn => h n (List.mem_cons_of_mem _ hn), List.filterMap_cons, e]
    | some t =>
      dsimp only
      rw [forS_met τ xs (s ++ [t]) (by simp; omega) fun n hn => h n (List.mem_cons_of_mem _ hn), List.filterMap_cons, e]
      simp
omit L in
theorem forF_all {α : Type} {f : α → Unit → Option (Fl Unit Bool)} (b : α → Bool) : ∀ xs : List α, (∀ x ∈ xs, f x () = some (cond (b x) (.nx ()) (.rt false))) → (forF xs () f >>= (fun o => match o with
    | .nx _ => some true
    | .rt x => some x
    | .bk _ => none
    | .ct _ => none)) = some (xs.all b)
  | [], _ => rfl
  | x :: xs, h => by
    have e := h x (List.mem_cons_self ..)
    have ih := forF_all b xs fun y hy => h y (List.mem_cons_of_mem _ hy)
    cases hb : b x with
    | true =>
      rw [hb] at e
      rw [forF_next (s' := ()) e (.inl rfl), ih, List.all_cons, hb]; rfl
    | false =>
      rw [hb] at e
      rw [forF_ret e, List.all_cons, hb]; rfl
end
end Ty

set_option maxHeartbeats 4000000
/-! what looks say: plain Lean -/
namespace Ty
open PySem L2
def openU (name : Str) (m u v : Int) (op : Str) (f : P2) : U := .tup [.str "open", .tup [.str name, .int m], .int u, .int v, .str op, .tup [.int f.1, .int f.2]]
def beamU (name : Str) (m u v : Int) (who : Str) (lo hi : P2) : U := .tup [.str "beam", .tup [.str name, .int m], .int u, .int v, .str who, .tup [.int lo.1, .int lo.2], .tup [.int hi.1, .int hi.2]]
section
variable {D unit u v m : Int} {head : Hd} {placing : Plc} {name : Str}
variable (L : Ln D unit head placing name m u v)
include L
theorem Ln.at0 : atI ((bsOf head placing name m).map (toI unit)) 0 = some (toI unit (b0Of head placing name m)) := by
  obtain ⟨rest, e⟩ := b0_mem L.S L.nm L.m0 L.m1
  rw [e, List.map_cons, atI_zero]
def metL (head : Hd) (placing : Plc) (unit : Int) (name : Str) (m u v : Int) : List P2 := (solidsV head).filterMap (tnV head placing unit name m u v)
def metN (head : Hd) (placing : Plc) (unit : Int) (name : Str) (m u v : Int) (who : Str) : List P2 := ((solidsV head).filter fun n => !decide (n = who)).filterMap (tnV head placing unit name m u v)
omit L in
theorem filterMap_filter' {α β : Type} (p : α → Bool) (f : α → Option β) : ∀ xs : List α, (xs.filter p).filterMap f = xs.filterMap fun x => cond (p x) (f x) none
  | [] => rfl
  | x :: xs => by
    have ih := filterMap_filter' p f xs
    cases h : p x with
    | true => rw [List.filter_cons, if_pos h, List.filterMap_cons, List.filterMap_cons, h, cond_true, ih]
    | false => rw [List.filter_cons, if_neg (by rw [h]; decide), List.filterMap_cons, h, cond_false, ih]
theorem Ln.met_NB {n : Str} (hn : n ∈ solidsV head) {t : P2} (e : tnV head placing unit name m u v n = some t) : 0 < t.2 ∧ t.2 ≤ 100 ∧ t.1.natAbs ≤ 2 ^ 53 := L.tn_NB (sol_mem hn) t e
theorem Ln.metL_NB {t : P2} (h : t ∈ metL head placing unit name m u v) : 0 < t.2 ∧ t.2 ≤ 100 ∧ t.1.natAbs ≤ 2 ^ 53 := by
  obtain ⟨n, hn, e⟩ := List.mem_filterMap.mp h
  exact L.met_NB hn e
theorem Ln.metN_NB {who : Str} {t : P2} (h : t ∈ metN head placing unit name m u v who) : 0 < t.2 ∧ t.2 ≤ 100 ∧ t.1.natAbs ≤ 2 ^ 53 := by
  obtain ⟨n, hn, e⟩ := List.mem_filterMap.mp h
  exact L.met_NB (List.mem_filter.mp hn).1 e
theorem Ln.looks_open {op : Str} {f : P2} (hf : FBd 64 f) (sb : Int → Int → Bool) (hs : ∀ a b, m_law_stands a op b = some (sb a b)) :
    m_law_looks (wdV head unit placing) (openU name m u v op f) = some ((metL head placing unit name m u v).all fun t => sb (t.1 * f.2) (f.1 * t.2 * unit)) := by
  unfold m_law_looks openU
  refine Ok.eq ?_
  refine Ok.get (v := .tup [.str name, .int m]) rfl (Ok.get (v := .int m) rfl (Ok.get (v := m) rfl (Ok.get (v := .tup [.str name, .int m]) rfl (Ok.get (v := (name, m)) rfl ?_))))
  refine Ok.get (L.place L.nm) (Ok.get L.at0 (Ok.get (law_solids_eq rfl) ?_))
  refine Ok.get (forS_met (tnV head placing unit name m u v) (solidsV head) [] (by have := L.sol_few; show 0 + _ ≤ _; omega) fun n hn s h1 => Ok.eq ?_) ?_
  · refine Ok.get (L.place (sol_mem hn)) (Ok.get (v := .int u) rfl (Ok.get (v := u) rfl (Ok.get (v := .int v) rfl (Ok.get (v := v) rfl (Ok.get (L.met (sol_mem hn)) ?_)))))
    cases e : tnV head placing unit name m u v n with
    | none => exact ⟨s, rfl, rfl⟩
    | some t =>
      refine Ok.get (v := s ++ [t]) ?_ (Ok.ret rfl)
      show (pushR s t >>= fun v25 => some v25.2) = _
      rw [pushR_eq h1]; rfl
  · refine Ok.get (v := .str "open") rfl (Ok.get (v := ("open" : Str)) rfl ?_)
    show Ok (forF (metL head placing unit name m u v) () _ >>= _) _
    refine ⟨_, forF_all (fun t => sb (t.1 * f.2) (f.1 * t.2 * unit)) _ fun t ht => Ok.eq ?_, rfl⟩
    obtain ⟨b1, b2, b3⟩ := L.metL_NB ht
    obtain ⟨f1, f2, f3⟩ := hf
    have u1 := L.U.1
    have u2 := L.U.2
    have p : (f.1 * t.2).natAbs ≤ 2 ^ 64 * 2 ^ 7 := by rw [Int.natAbs_mul]; exact Nat.mul_le_mul f2 (by omega)
    refine Ok.get (v := .tup [.int f.1, .int f.2]) rfl (Ok.get (v := .int f.2) rfl (Ok.get (v := f.2) rfl (Ok.get (mulR_s (by omega) (by omega)) ?_)))
    refine Ok.get (v := .str op) rfl (Ok.get (v := op) rfl (Ok.get (v := .tup [.int f.1, .int f.2]) rfl (Ok.get (v := .int f.1) rfl (Ok.get (v := f.1) rfl (Ok.get (mulR_s (by omega) (by omega)) (Ok.get (mulR_s (by omega) (show unit.natAbs < _ by omega)) (Ok.get (hs _ _) ?_)))))))
    show Ok (cond (!sb (t.1 * f.2) (f.1 * t.2 * unit)) _ _) _
    cases h : sb (t.1 * f.2) (f.1 * t.2 * unit) with
    | true => exact Ok.ret rfl
    | false => exact Ok.ret rfl
def beamV (unit : Int) (q : Option P2) (lo hi : P2) (met : List P2) : Bool := match q with
  | none => false
  | some q => !(decide (q.1 * lo.2 < lo.1 * q.2 * unit) || decide (hi.1 * q.2 * unit < q.1 * hi.2)) && met.all fun t => !decide (t.1 * q.2 < q.1 * t.2)
theorem Ln.looks_beam {who : Str} {lo hi : P2} (h1 : FBd 64 lo) (h2 : FBd 64 hi) (hw : who ∈ head.2.2.2.map (·.1)) :
    m_law_looks (wdV head unit placing) (beamU name m u v who lo hi) = some (beamV unit (tnV head placing unit name m u v who) lo hi (metN head placing unit name m u v who)) := by
  unfold m_law_looks beamU
  refine Ok.eq ?_
  refine Ok.get (v := .tup [.str name, .int m]) rfl (Ok.get (v := .int m) rfl (Ok.get (v := m) rfl (Ok.get (v := .tup [.str name, .int m]) rfl (Ok.get (v := (name, m)) rfl ?_))))
  refine Ok.get (L.place L.nm) (Ok.get L.at0 (Ok.get (law_solids_eq rfl) ?_))
  refine Ok.get (v := metN head placing unit name m u v who) ?_ ?_
  · unfold metN
    rw [filterMap_filter']
    refine (forS_met (fun n => cond (!decide (n = who)) (tnV head placing unit name m u v n) none) (solidsV head) [] (by have := L.sol_few; show 0 + _ ≤ _; omega) fun n hn s h1 => Ok.eq ?_).trans (by rw [List.nil_append])
    refine Ok.get (L.place (sol_mem hn)) (Ok.get (v := .int u) rfl (Ok.get (v := u) rfl (Ok.get (v := .int v) rfl (Ok.get (v := v) rfl (Ok.get (L.met (sol_mem hn)) ?_)))))
    cases e : tnV head placing unit name m u v n with
    | none =>
      refine Ok.get (v := s) rfl (Ok.ret ?_)
      cases (!decide (n = who)) <;> rfl
    | some t =>
      refine Ok.get (v := cond (!decide (n = who)) (s ++ [t]) s) ?_ (Ok.ret ?_)
      · show ((some (!decide (n = who)) : Option Bool) >>= fun c23 => cond c23 (some t >>= fun v24 => pushR s v24 >>= fun v25 => some v25.2) (some s)) = _
        rw [obind_some, obind_some, pushR_eq h1]
        cases (!decide (n = who)) <;> rfl
      · cases (!decide (n = who)) <;> rfl
  · refine Ok.get (v := .str "beam") rfl (Ok.get (v := ("beam" : Str)) rfl ?_)
    refine Ok.get (v := .str who) rfl (Ok.get (v := who) rfl (Ok.get (L.place hw) (Ok.get (v := .int u) rfl (Ok.get (v := u) rfl (Ok.get (v := .int v) rfl (Ok.get (v := v) rfl (Ok.get (L.met hw) ?_)))))))
    cases e : tnV head placing unit name m u v who with
    | none => exact ⟨false, rfl, rfl⟩
    | some q =>
      obtain ⟨b1, b2, b3⟩ := L.tn_NB hw q e
      obtain ⟨f1, f2, f3⟩ := h1
      obtain ⟨g1, g2, g3⟩ := h2
      have u1 := L.U.1
      have u2 := L.U.2
      have p1 : (lo.1 * q.2).natAbs ≤ 2 ^ 64 * 2 ^ 7 := by rw [Int.natAbs_mul]; exact Nat.mul_le_mul f2 (by omega)
      have p2 : (hi.1 * q.2).natAbs ≤ 2 ^ 64 * 2 ^ 7 := by rw [Int.natAbs_mul]; exact Nat.mul_le_mul g2 (by omega)
      refine Ok.get (v := decide (q.1 * lo.2 < lo.1 * q.2 * unit) || decide (hi.1 * q.2 * unit < q.1 * hi.2)) (Ok.eq ?_) ?_
      · refine Ok.get (v := q) rfl (Ok.get (v := .tup [.int lo.1, .int lo.2]) rfl (Ok.get (v := .int lo.2) rfl (Ok.get (v := lo.2) rfl (Ok.get (mulR_s (by omega) (by omega)) ?_))))
        refine Ok.get (v := .tup [.int lo.1, .int lo.2]) rfl (Ok.get (v := .int lo.1) rfl (Ok.get (v := lo.1) rfl (Ok.get (v := q) rfl (Ok.get (mulR_s (by omega) (by omega)) (Ok.get (mulR_s (by omega) (show unit.natAbs < _ by omega)) ?_)))))
        change Ok (cond (decide (q.1 * lo.2 < lo.1 * q.2 * unit)) _ _ >>= _) fun x => x = (decide (q.1 * lo.2 < lo.1 * q.2 * unit) || decide (hi.1 * q.2 * unit < q.1 * hi.2))
        cases hc : decide (q.1 * lo.2 < lo.1 * q.2 * unit) with
        | true => exact ⟨true, rfl, rfl⟩
        | false =>
          refine Ok.get (v := decide (hi.1 * q.2 * unit < q.1 * hi.2)) (Ok.eq ?_) (Ok.ret rfl)
          refine Ok.get (v := q) rfl (Ok.get (v := .tup [.int hi.1, .int hi.2]) rfl (Ok.get (v := .int hi.2) rfl (Ok.get (v := hi.2) rfl (Ok.get (mulR_s (by omega) (by omega)) ?_))))
          exact Ok.get (v := .tup [.int hi.1, .int hi.2]) rfl (Ok.get (v := .int hi.1) rfl (Ok.get (v := hi.1) rfl (Ok.get (v := q) rfl (Ok.get (mulR_s (by omega) (by omega)) (Ok.get (mulR_s (by omega) (show unit.natAbs < _ by omega)) (Ok.ret rfl))))))
      · show Ok (cond (decide (q.1 * lo.2 < lo.1 * q.2 * unit) || decide (hi.1 * q.2 * unit < q.1 * hi.2)) _ _) fun x => x = (!(decide (q.1 * lo.2 < lo.1 * q.2 * unit) || decide (hi.1 * q.2 * unit < q.1 * hi.2)) && (metN head placing unit name m u v who).all fun t => !decide (t.1 * q.2 < q.1 * t.2))
        cases (decide (q.1 * lo.2 < lo.1 * q.2 * unit) || decide (hi.1 * q.2 * unit < q.1 * hi.2)) with
        | true => exact Ok.ret rfl
        | false =>
          show Ok (forF (metN head placing unit name m u v who) () _ >>= _) fun x => x = (metN head placing unit name m u v who).all fun t => !decide (t.1 * q.2 < q.1 * t.2)
          refine ⟨_, forF_all (fun t => !decide (t.1 * q.2 < q.1 * t.2)) _ fun t ht => Ok.eq ?_, rfl⟩
          obtain ⟨c1, c2, c3⟩ := L.metN_NB ht
          refine Ok.get (v := q) rfl (Ok.get (mulR_s (by omega) (by omega)) (Ok.get (v := q) rfl (Ok.get (mulR_s (by omega) (by omega)) ?_)))
          show Ok (cond (decide (t.1 * q.2 < q.1 * t.2)) _ _) _
          cases decide (t.1 * q.2 < q.1 * t.2) with
          | true => exact Ok.ret rfl
          | false => exact Ok.ret rfl
end
end Ty

set_option maxHeartbeats 4000000
/-! fractions of up to 240 bits: plain Lean -/
namespace Ty
open PySem L2
theorem FBd.c {k : Nat} {f : P2} (h : FBd k f) (hk : k ≤ 240) : f.1.natAbs < 2 ^ 250 ∧ f.2.natAbs < 2 ^ 250 := by
  have h := h.mono hk
  have := h.n
  have := h.2.1
  omega
theorem less_eq2 {k l : Nat} {p q : P2} (hp : FBd k p) (hq : FBd l q) (hk : k ≤ 240) (hl : l ≤ 240) : m_is_less p q = some (decide (lessP p q)) := by
  unfold m_is_less
  rw [mulR_s (hp.c hk).1 (hq.c hl).2, mulR_s (hq.c hl).1 (hp.c hk).2]; rfl
theorem law_less_eq2 {k l : Nat} {p q : P2} (hp : FBd k p) (hq : FBd l q) (hk : k ≤ 240) (hl : l ≤ 240) : m_law_less p q = some (decide (lessP p q)) := less_eq2 hp hq hk hl
theorem law_most_eq2 {k l : Nat} {p q : P2} (hp : FBd k p) (hq : FBd l q) (hk : k ≤ 240) (hl : l ≤ 240) : m_law_most p q = some (decide (p.1 * q.2 ≤ q.1 * p.2)) := by
  unfold m_law_most
  rw [mulR_s (hp.c hk).1 (hq.c hl).2, mulR_s (hq.c hl).1 (hp.c hk).2]; rfl
theorem greater_eq2 {k l : Nat} {p q : P2} (hp : FBd k p) (hq : FBd l q) (hk : k ≤ 240) (hl : l ≤ 240) : m_greater p q = some (if lessP p q then q else p) := by
  unfold m_greater
  rw [less_eq2 hp hq hk hl, obind_some, cond_ite]; split <;> rfl
theorem arith_FBd {k l : Nat} {p q : P2} (hp : FBd k p) (hq : FBd l q) : (p.1 * q.2).natAbs ≤ 2 ^ (k + l) ∧ (q.1 * p.2).natAbs ≤ 2 ^ (k + l) ∧ (p.2 * q.2).natAbs ≤ 2 ^ (k + l) ∧ 0 < p.2 * q.2 ∧ 2 ^ (k + l + 1) = 2 * 2 ^ (k + l) := by
  have h2 := prod_b hq.2.1 hp.n
  rw [Nat.add_comm l k] at h2
  exact ⟨prod_b hp.2.1 hq.n, h2, prod_b hp.n hq.n, Int.mul_pos hp.1 hq.1, by rw [Nat.pow_succ]; omega⟩
theorem sub_FBd {k l : Nat} {p q : P2} (hp : FBd k p) (hq : FBd l q) : FBd (k + l + 1) (subV p q) := by
  obtain ⟨a, b, c, d, e⟩ := arith_FBd hp hq
  exact low_FBd (by omega) d (by omega)
theorem add_FBd {k l : Nat} {p q : P2} (hp : FBd k p) (hq : FBd l q) : FBd (k + l + 1) (addV p q) := by
  obtain ⟨a, b, c, d, e⟩ := arith_FBd hp hq
  exact low_FBd (by omega) d (by omega)
theorem minus_eq2 {k l : Nat} {p q : P2} (hp : FBd k p) (hq : FBd l q) (hk : k + l ≤ 240) : m_minus p q = some (subV p q) := by
  obtain ⟨a, b, c, d, e⟩ := arith_FBd hp hq
  have le : 2 ^ (k + l) ≤ 2 ^ 240 := Nat.pow_le_pow_right (by decide) hk
  unfold m_minus
  rw [mulR_s (hp.c (by omega)).1 (hq.c (by omega)).2, mulR_s (hq.c (by omega)).1 (hp.c (by omega)).2, mulR_s (hp.c (by omega)).2 (hq.c (by omega)).2]
  show m_lowest _ _ >>= _ = _
  rw [lowest_eq, lowR_eq (by omega) (by omega)]; rfl
theorem law_minus_eq2 {k l : Nat} {p q : P2} (hp : FBd k p) (hq : FBd l q) (hk : k + l ≤ 240) : m_law_minus p q = some (subV p q) := by rw [minus_law]; exact minus_eq2 hp hq hk
theorem law_plus_eq2 {k l : Nat} {p q : P2} (hp : FBd k p) (hq : FBd l q) (hk : k + l ≤ 240) : m_law_plus p q = some (addV p q) := by
  obtain ⟨a, b, c, d, e⟩ := arith_FBd hp hq
  have le : 2 ^ (k + l) ≤ 2 ^ 240 := Nat.pow_le_pow_right (by decide) hk
  unfold m_law_plus
  rw [mulR_s (hp.c (by omega)).1 (hq.c (by omega)).2, mulR_s (hq.c (by omega)).1 (hp.c (by omega)).2, mulR_s (hp.c (by omega)).2 (hq.c (by omega)).2]
  show m_law_low _ _ >>= _ = _
  rw [low_eq, lowR_eq (by omega) (by omega)]; rfl
/-- two numbers met, told -/
theorem lessP_num {unit : Int} {p q : P2} (hu : 0 < unit) (hp : 0 < p.2) (hq : 0 < q.2) : lessP (lowV p.1 (p.2 * unit)) (lowV q.1 (q.2 * unit)) ↔ lessP p q := by
  unfold lessP
  rw [low_less (Int.mul_pos hp hu) (Int.mul_pos hq hu)]
  rw [← Int.mul_assoc, ← Int.mul_assoc]
  constructor
  · intro h; exact Int.lt_of_mul_lt_mul_right h (by omega)
  · intro h; exact Int.mul_lt_mul_of_pos_right h hu
theorem eqP_frac {a b c d : Int} : U.eqP (.tup [.int a, .int b]) (.tup [.int c, .int d]) = some (decide (a = c) && decide (b = d)) := by
  show (some (PyData.tuple [.int a, .int b]) >>= fun x => some (PyData.tuple [.int c, .int d]) >>= fun y => if SeqAt.shaped x = true ∧ SeqAt.shaped y = true then some (PyData.eqv x y) else none) = _
  rw [obind_some, obind_some, if_pos ⟨rfl, rfl⟩]
  show some ((a == c) && ((b == d) && true)) = _
  rw [Bool.and_true]; rfl
theorem eqP_none {c d : Int} : U.eqP .non (.tup [.int c, .int d]) = some false := rfl
theorem ok_mark0 : FBd 1 ((0, 1) : P2) := ⟨by decide, by decide, by decide⟩
end Ty

set_option maxHeartbeats 4000000
/-! drawn scenes, ways and marks: plain Lean -/
namespace Ty
open PySem L2
theorem ok_plain {u v : Int} (h : u ≠ 0 ∨ v ≠ 0) (hu : u.natAbs < 2 ^ 100) (hv : v.natAbs < 2 ^ 100) : Ok (m_law_line_plain (u, v)) fun w => (w.1 ≠ 0 ∨ w.2 ≠ 0) ∧ w.1.natAbs ≤ u.natAbs ∧ w.2.natAbs ≤ v.natAbs := by
  unfold m_law_line_plain lt
  dsimp only
  rw [absI_nat, absI_nat, show ((v.natAbs : Int)).toNat = v.natAbs by simp]
  rw [whl_gcd (Int × Int) (v.natAbs + 1) u.natAbs v.natAbs (by omega)]
  show Ok (fdivR u (Nat.gcd u.natAbs v.natAbs : Int) >>= fun v5 => fdivR v (Nat.gcd u.natAbs v.natAbs : Int) >>= fun v6 => some (v5, v6)) _
  have g0 : 0 < Nat.gcd u.natAbs v.natAbs := by
    rcases h with h | h
    · exact Nat.gcd_pos_of_pos_left _ (by omega)
    · exact Nat.gcd_pos_of_pos_right _ (by omega)
  have g1 : Nat.gcd u.natAbs v.natAbs < 2 ^ 100 := by
    rcases h with h | h
    · have := Nat.gcd_le_left (m := u.natAbs) v.natAbs (by omega); omega
    · have := Nat.gcd_le_right (n := v.natAbs) u.natAbs (by omega); omega
  have d1 : ((Nat.gcd u.natAbs v.natAbs : Nat) : Int) ∣ u := Int.ofNat_dvd_left.mpr (Nat.gcd_dvd_left ..)
  have d2 : ((Nat.gcd u.natAbs v.natAbs : Nat) : Int) ∣ v := Int.ofNat_dvd_left.mpr (Nat.gcd_dvd_right ..)
  generalize Nat.gcd u.natAbs v.natAbs = g at *
  have m1 := Int.fdiv_mul_cancel d1
  have m2 := Int.fdiv_mul_cancel d2
  refine Ok.get (fdivR_s (by omega) (by omega)) (Ok.get (fdivR_s (by omega) (by omega)) (Ok.ret ⟨?_, ?_, ?_⟩))
  · rcases h with h | h
    · left; intro z
      have z : u.fdiv g = 0 := z
      rw [z] at m1; omega
    · right; intro z
      have z : v.fdiv g = 0 := z
      rw [z] at m2; omega
  · show (u.fdiv g).natAbs ≤ _
    have : (u.fdiv g).natAbs * g = u.natAbs := by
      have := congrArg Int.natAbs m1
      rw [Int.natAbs_mul, Int.natAbs_natCast] at this
      exact this
    have : (u.fdiv g).natAbs ≤ (u.fdiv g).natAbs * g := Nat.le_mul_of_pos_right _ g0
    omega
  · show (v.fdiv g).natAbs ≤ _
    have : (v.fdiv g).natAbs * g = v.natAbs := by
      have := congrArg Int.natAbs m2
      rw [Int.natAbs_mul, Int.natAbs_natCast] at this
      exact this
    have : (v.fdiv g).natAbs ≤ (v.fdiv g).natAbs * g := Nat.le_mul_of_pos_right _ g0
    omega
theorem ok_fraction {n : Nat} {t : Tape} {lo hi : Int} (g : Good n t) (hn : n < 900000000) (h0 : 0 ≤ lo) (h1 : lo ≤ hi) (h2 : hi ≤ 1000) : Ok (m_law_fraction t lo hi) fun x => FBd 14 x.1 ∧ 0 ≤ x.1.1 ∧ Good (n + 2) x.2 := by
  unfold m_law_fraction
  refine (ok_pick g (by omega) (by decide) (by decide)).bind fun d ⟨hd, g1⟩ => ?_
  have hd : 1 ≤ d.1 ∧ d.1 ≤ 8 := by
    simp only [List.mem_cons, List.not_mem_nil, or_false] at hd
    omega
  have a1 : 0 ≤ lo * d.1 := Int.mul_nonneg h0 (by omega)
  have a2 : lo * d.1 ≤ 1000 * 8 := Int.mul_le_mul (by omega) hd.2 (by omega) (by omega)
  have b1 : 0 ≤ (hi - lo) * d.1 := Int.mul_nonneg (by omega) (by omega)
  have b2 : (hi - lo) * d.1 ≤ 1000 * 8 := Int.mul_le_mul (by omega) hd.2 (by omega) (by omega)
  refine Ok.get (mulR_s (by omega) (by omega)) (Ok.get (mulR_s (by omega) (by omega)) ?_)
  refine (ok_draw g1 (by omega) (by omega)).bind fun v ⟨p1, p2, p3⟩ => ?_
  refine (ok_low (P := fun f => FBd 14 f ∧ 0 ≤ f.1) (by omega) (by omega) ⟨low_FBd (by omega) (by omega) (by omega), ?_⟩).bind fun f hf => Ok.ret ⟨hf.1, hf.2, p3⟩
  have m := (lowV_mul (n := lo * d.1 + v.1) (d := d.1) (by omega)).1
  have s : 0 < sgR (lo * d.1 + v.1) d.1 := by unfold sgR; rw [if_neg (by omega)]; exact gcdI_pos (by omega)
  refine Int.not_lt.mp fun q => ?_
  have := Int.mul_neg_of_neg_of_pos q s
  omega
theorem ok_stretch {n : Nat} {t : Tape} {most long : Int} (g : Good n t) (hn : n < 900000000) (h0 : most ≤ 2 ^ 14) (h1 : 0 ≤ long ∧ long ≤ 1) : Ok (m_law_line_stretch t most long) fun x => 0 ≤ x.1.1 ∧ x.1.1 ≤ x.1.2 ∧ x.1.2 ≤ 2 ^ 16 ∧ Good (n + 2) x.2 := by
  unfold m_law_line_stretch
  refine (ok_draw g (by omega) (by omega)).bind fun v ⟨a, b, g1⟩ => ?_
  refine (ok_draw g1 (by omega) (by omega)).bind fun w ⟨c, d, g2⟩ => ?_
  have m1 : long * (1 + w.1) ≤ 1 * (2 ^ 14 + 2) := Int.mul_le_mul h1.2 (by omega) (by omega) (by omega)
  have m0 : 0 ≤ long * (1 + w.1) := Int.mul_nonneg h1.1 (by omega)
  exact Ok.get (mulR_s (by omega) (by omega)) (Ok.ret ⟨a, by show v.1 ≤ v.1 + _; omega, by show v.1 + _ ≤ _; omega, g2⟩)
theorem ok_stretch1 {n : Nat} {t : Tape} {most long : Int} (g : Good n t) (hn : n < 900000000) (h00 : 1 ≤ most) (h0 : most ≤ 2 ^ 14) (h1 : 0 ≤ long ∧ long ≤ 1) : Ok (m_law_line_stretch t most long) fun x => 0 ≤ x.1.1 ∧ x.1.1 ≤ x.1.2 ∧ x.1.2 ≤ most + 1 ∧ Good (n + 2) x.2 := by
  unfold m_law_line_stretch
  refine (ok_draw g (by omega) (by omega)).bind fun v ⟨a, b, g1⟩ => ?_
  refine (ok_draw g1 (by omega) (by omega)).bind fun w ⟨c, d, g2⟩ => ?_
  have m1 : long * (1 + w.1) ≤ 1 * (1 + w.1) := Int.mul_le_mul_of_nonneg_right h1.2 (by omega)
  have m0 : 0 ≤ long * (1 + w.1) := Int.mul_nonneg h1.1 (by omega)
  refine Ok.get (mulR_s (by omega) (by omega)) (Ok.ret ⟨a, by show v.1 ≤ v.1 + _; omega, ?_, g2⟩)
  show v.1 + long * (1 + w.1) ≤ most + 1
  omega
/-- a drawn box's bounds -/
def BxS (b : IB) : Prop := b.1.natAbs ≤ 2 ^ 18 ∧ b.2.1.natAbs ≤ 2 ^ 18 ∧ b.2.2.1.natAbs ≤ 2 ^ 18 ∧ b.2.2.2.natAbs ≤ 2 ^ 18
def StS (x : Int × Int) : Prop := 0 ≤ x.1 ∧ x.1 ≤ x.2 ∧ x.2 ≤ 2 ^ 16
theorem long_ok (s : Str) : ∃ a b, m_law_line_long s = some (a, b) ∧ (0 ≤ a ∧ a ≤ 1) ∧ 0 ≤ b ∧ b ≤ 1 := by
  have h : ∀ c : Bool, 0 ≤ (if c then (1 : Int) else 0) ∧ (if c then (1 : Int) else 0) ≤ 1 := by intro c; cases c <;> decide
  exact ⟨_, _, rfl, h _, h _⟩
abbrev LbS := (List IB × Tape) ⊕ (List IB × Tape × (Int × Int) × (Int × Int))
def LbI (n : Nat) (i : Nat) (s : LbS) : Prop := match s with
  | .inl s => i = 0 ∧ s.1 = [] ∧ Good n s.2
  | .inr s => 1 ≤ i ∧ s.1.length = i ∧ (∀ b ∈ s.1, BxS b) ∧ Good (n + 4 * i) s.2.1 ∧ StS s.2.2.1 ∧ StS s.2.2.2
theorem ok_boxes {n : Nat} {t : Tape} {thing : Thg} {mo wide high : Int} (g : Good n t) (hn : n < 800000000) (h1 : wide ≤ 2 ^ 14) (h2 : high ≤ 2 ^ 14) (m0 : 1 ≤ mo) (m1 : mo ≤ 100) :
    Ok (m_law_line_boxes t thing mo wide high) fun x => (thing.2.1 ≠ "land" → x.1.length = (cond thing.2.2 mo.toNat 1)) ∧ 1 ≤ x.1.length ∧ x.1.length ≤ 1000 ∧ (∀ b ∈ x.1, BxS b) ∧ Good (n + 300) x.2 := by
  unfold m_law_line_boxes
  obtain ⟨la, lb, el, hla, hlb⟩ := long_ok thing.2.1
  refine Ok.get el (Ok.bind (P := fun c => 1 ≤ c.1 ∧ c.1 ≤ 3 ∧ (thing.2.1 ≠ "land" → c.1 = 1) ∧ Good (n + 1) c.2) (Ok.cond (fun h => ?_) (fun h => Ok.ret ⟨by show (1 : Int) ≤ 1; decide, by show (1 : Int) ≤ 3; decide, fun _ => rfl, g.mono (by omega)⟩)) fun c ⟨c1, c2, c3, gc⟩ => ?_)
  · refine (ok_pick g (by omega) (by decide) (by decide)).bind fun v ⟨hv, g1⟩ => Ok.ret ⟨?_, ?_, fun z => absurd (of_decide_eq_true h) z, g1⟩
    · simp only [List.mem_cons, List.not_mem_nil, or_false] at hv; show 1 ≤ v.1; omega
    · simp only [List.mem_cons, List.not_mem_nil, or_false] at hv; show v.1 ≤ 3; omega
  refine (ok_rng1 (P := fun r => r = rangeI 0 c.1) (by unfold CRng; omega) rfl).bind fun v5 e5 => ?_
  subst e5
  have one : ∀ (bs : List IB) (tp : Tape) (k : Nat), Good (n + 1 + 4 * k) tp → k ≤ 3 → bs.length = k → (∀ b ∈ bs, BxS b) → Ok (m_law_line_stretch tp wide la >>= fun v8 => m_law_line_stretch v8.2 high lb >>= fun v9 => pushR bs (v8.1.1, v9.1.1, v8.1.2, v9.1.2) >>= fun v10 => some (.inr (v10.2, v9.2, v8.1, v9.1) : LbS)) (LbI (n + 1) (k + 1)) := fun bs tp k gk hk hl hb => by
    refine (ok_stretch gk (by omega) h1 hla).bind fun v ⟨a1, a2, a3, a4⟩ => ?_
    refine (ok_stretch a4 (by omega) h2 hlb).bind fun w ⟨b1, b2, b3, b4⟩ => ?_
    refine Ok.get (pushR_eq (by omega)) (Ok.ret ⟨by omega, ?_, fun b h => ?_, b4.mono (by omega), ⟨a1, a2, a3⟩, ⟨b1, b2, b3⟩⟩)
    · show (bs ++ [_]).length = k + 1
      simp [hl]
    · rcases List.mem_append.mp h with h | h
      · exact hb b h
      · rw [List.mem_singleton.mp h]
        exact ⟨by show v.1.1.natAbs ≤ _; omega, by show w.1.1.natAbs ≤ _; omega, by show v.1.2.natAbs ≤ _; omega, by show w.1.2.natAbs ≤ _; omega⟩
  refine (ok_forS (LbI (n + 1)) (rangeI 0 c.1) 0 (.inl ([], c.2)) ⟨rfl, rfl, gc⟩ fun i x s _ _ hi hs => ?_).bind fun s hs => ?_
  · rw [len_rangeI] at hi
    cases s with
    | inl s =>
      obtain ⟨i0, s0, gs⟩ := hs
      subst i0
      exact one s.1 s.2 0 gs (by omega) (by rw [s0]; rfl) (by rw [s0]; exact fun _ h => nomatch h)
    | inr s =>
      obtain ⟨i0, s0, sb, gs, _, _⟩ := hs
      exact one s.1 s.2.1 i gs (by omega) s0 sb
  · rw [len_rangeI] at hs
    cases s with
    | inl s => obtain ⟨i0, _, _⟩ := hs; omega
    | inr s =>
      obtain ⟨i0, s0, sb, gs, ⟨x1, x2, x3⟩, ⟨y1, y2, y3⟩⟩ := hs
      obtain ⟨bs, tp, ac, al⟩ := s
      have s0 : bs.length = 0 + (c.1 - 0).toNat := s0
      show Ok (rng1 (cond thing.2.2 (mo - 1) 0) >>= _) _
      have hk : 0 ≤ cond thing.2.2 (mo - 1) 0 ∧ cond thing.2.2 (mo - 1) 0 < 100 := by cases thing.2.2 <;> (simp only [cond_true, cond_false]; omega)
      refine (ok_rng1 (P := fun r => r = rangeI 0 (cond thing.2.2 (mo - 1) 0)) (by unfold CRng; omega) rfl).bind fun v14 e14 => ?_
      subst e14
      refine (ok_forS (fun i (s : List IB × Tape) => s.1.length = bs.length + i ∧ (∀ b ∈ s.1, BxS b) ∧ Good (n + 20 + 2 * i) s.2) (rangeI 0 (cond thing.2.2 (mo - 1) 0)) 0 (bs, tp) ⟨rfl, sb, gs.mono (by omega)⟩ fun i x s _ _ hi ⟨l1, l2, l3⟩ => ?_).bind fun s ⟨l1, l2, l3⟩ => ?_
      · rw [len_rangeI] at hi
        refine (ok_draw l3 (by omega) (by show wide + 1 - (ac.2 - ac.1) < _; have : ac.1 ≤ ac.2 := x2; omega)).bind fun v ⟨a, b, g1⟩ => ?_
        refine (ok_draw g1 (by omega) (by show high + 1 - (al.2 - al.1) < _; have : al.1 ≤ al.2 := y2; omega)).bind fun w ⟨a', b', g2⟩ => ?_
        have x1 : 0 ≤ ac.1 := x1
        have x2 : ac.1 ≤ ac.2 := x2
        have x3 : ac.2 ≤ 2 ^ 16 := x3
        have y1 : 0 ≤ al.1 := y1
        have y2 : al.1 ≤ al.2 := y2
        have y3 : al.2 ≤ 2 ^ 16 := y3
        have b : v.1 < max (wide + 1 - (ac.2 - ac.1)) 1 := b
        have b' : w.1 < max (high + 1 - (al.2 - al.1)) 1 := b'
        refine Ok.get (pushR_eq (by omega)) (Ok.ret ⟨?_, fun b h => ?_, g2.mono (by omega)⟩)
        · show (s.1 ++ [_]).length = bs.length + (i + 1)
          rw [List.length_append, l1]; simp; omega
        · rcases List.mem_append.mp h with h | h
          · exact l2 b h
          · rw [List.mem_singleton.mp h]
            exact ⟨by show v.1.natAbs ≤ _; omega, by show w.1.natAbs ≤ _; omega, by show (v.1 + ac.2 - ac.1).natAbs ≤ _; omega, by show (w.1 + al.2 - al.1).natAbs ≤ _; omega⟩
      · rw [len_rangeI] at l1 l3
        refine Ok.ret ⟨fun nl => ?_, ?_, ?_, l2, l3.mono (by omega)⟩
        · show s.1.length = _
          have := c3 nl
          cases hm : thing.2.2 with
          | true =>
            simp only [hm, cond_true] at l1 ⊢
            omega
          | false =>
            simp only [hm, cond_false] at l1 ⊢
            omega
        · show 1 ≤ s.1.length; omega
        · show s.1.length ≤ 1000; omega
/-! ### heads -/
structure HdOk (sorts : List Str) (h : Hd) : Prop where
  a : 3 ≤ h.1 ∧ h.1 ≤ 8
  b : 3 ≤ h.2.1 ∧ h.2.1 ≤ 8
  mo : 1 ≤ h.2.2.1 ∧ h.2.2.1 ≤ 3
  nd : (h.2.2.2.map (·.1)).Nodup
  sk : ∀ y ∈ h.2.2.2.map (·.1), sOk y
  so : h.2.2.2.map (·.2.1) = sorts
  mv : ∀ t ∈ h.2.2.2, t.2.2 = true → t.2.1 ∈ [("spot" : Str), "area", "body"]
theorem ok_head {n : Nat} {t : Tape} {sorts : List Str} (g : Good n t) (hn : n < 700000000) (hs : sorts.length ≤ 100) : Ok (m_law_line_head t sorts) fun x => HdOk sorts x.1 ∧ Good (n + 3000) x.2 := by
  unfold m_law_line_head
  refine (ok_names g (by omega) (by omega)).bind fun v1 ⟨⟨n1, n2, n3⟩, g1⟩ => ?_
  refine (ok_pick g1 (by omega) (by decide) (by decide)).bind fun v2 ⟨h2, g2⟩ => ?_
  have h2 : 1 ≤ v2.1 ∧ v2.1 ≤ 3 := by
    simp only [List.mem_cons, List.not_mem_nil, or_false] at h2
    omega
  refine (ok_rng1 (P := fun r => r = rangeI 0 (sorts.length : Int)) (by unfold CRng; omega) rfl).bind fun v3 e3 => ?_
  subst e3
  refine (ok_forI (fun i (s : List Thg × Tape) => i ≤ sorts.length ∧ s.1.length = i ∧ s.1.map (·.1) = v1.1.take i ∧ s.1.map (·.2.1) = sorts.take i ∧ (∀ t ∈ s.1, t.2.2 = true → t.2.1 ∈ [("spot" : Str), "area", "body"]) ∧ Good (n + 2002 + i) s.2) (rangeI 0 (sorts.length : Int)) 0 ([], v2.2) ⟨Nat.zero_le _, rfl, rfl, rfl, fun _ h => (nomatch h), g2.mono (by omega)⟩ fun j x s hj hI => ?_).bind fun s hI => ?_
  · rw [Nat.zero_add] at hI
    obtain ⟨i1, i2, i3, i4, i5, i6⟩ := hI
    have hjl : j < sorts.length := by
      have := (List.getElem?_eq_some_iff.mp hj).1
      rw [len_rangeI] at this; omega
    have ex : x = (j : Int) := by
      unfold rangeI at hj
      rw [List.getElem?_map] at hj
      have : (List.range ((sorts.length : Int) - 0).toNat)[j]? = some j := List.getElem?_range (by omega)
      rw [this] at hj
      have : (0 : Int) + (j : Int) = x := Option.some.inj hj
      omega
    subst ex
    have gn : v1.1[j]? = some (v1.1[j]'(by omega)) := List.getElem?_eq_getElem (by omega)
    have gs : sorts[j]? = some (sorts[j]) := List.getElem?_eq_getElem hjl
    refine Ok.get (atI_nat gn) (Ok.get (atI_nat gs) (Ok.get (atI_nat gs) ?_))
    refine Ok.bind (P := fun c => (c.1 = true → sorts[j] ∈ [("spot" : Str), "area", "body"]) ∧ Good (n + 2002 + j + 1) c.2) (Ok.cond (fun h => ?_) (fun h => Ok.ret ⟨fun z => (nomatch z), i6.mono (by omega)⟩)) fun c ⟨c1, c2⟩ => ?_
    · exact (ok_draw i6 (by omega) (by decide)).bind fun v ⟨_, _, g3⟩ => Ok.ret ⟨fun _ => of_decide_eq_true h, g3⟩
    · refine Ok.get (pushR_eq (by omega)) (Ok.ret ?_)
      rw [Nat.zero_add]
      refine ⟨by omega, ?_, ?_, ?_, fun t ht => ?_, c2⟩
      · show (s.1 ++ [_]).length = _; simp [i2]
      · show (s.1 ++ [_]).map _ = _
        rw [List.map_append, i3, List.take_add_one, gn]; rfl
      · show (s.1 ++ [_]).map _ = _
        rw [List.map_append, i4, List.take_add_one, gs]; rfl
      · rcases List.mem_append.mp ht with h | h
        · exact i5 t h
        · rw [List.mem_singleton.mp h]; exact c1
  · rw [len_rangeI, Nat.zero_add] at hI
    obtain ⟨i1, i2, i3, i4, i5, i6⟩ := hI
    have es : ((sorts.length : Int) - 0).toNat = sorts.length := by omega
    rw [es] at i2 i3 i4 i6
    refine (ok_draw i6 (by omega) (by decide)).bind fun v13 ⟨a1, a2, g3⟩ => ?_
    refine (ok_draw g3 (by omega) (by decide)).bind fun v14 ⟨b1, b2, g4⟩ => Ok.ret ⟨⟨?_, ?_, h2, ?_, ?_, ?_, i5⟩, g4.mono (by omega)⟩
    · show 3 ≤ 3 + v13.1 ∧ 3 + v13.1 ≤ 8; omega
    · show 3 ≤ 3 + v14.1 ∧ 3 + v14.1 ≤ 8; omega
    · show (s.1.map _).Nodup
      rw [i3, ← n2, List.take_length]; exact n1
    · show ∀ y ∈ s.1.map _, sOk y
      rw [i3, ← n2, List.take_length]; exact n3
    · show s.1.map _ = _
      rw [i4, List.take_length]
end Ty

set_option maxHeartbeats 4000000
/-! drawn placings, scenes, ways and marks: plain Lean -/
namespace Ty
open PySem L2
theorem mapR_map2 {α β γ : Type} {d : β → Option γ} {g : α → β} : ∀ xs : List α, mapR d (xs.map g) = mapR (fun x => d (g x)) xs
  | [] => rfl
  | x :: xs => by
    show (d (g x) >>= fun y => mapR d (xs.map g) >>= fun ys => some (y :: ys)) = (d (g x) >>= fun y => mapR (fun x => d (g x)) xs >>= fun ys => some (y :: ys))
    rw [mapR_map2 xs]
def fr1 (unit scale : Int) (x : Int) : P2 := lowV (scale * x) unit
def frX (unit scale : Int) (b : IB) : FBx := (fr1 unit scale b.1, fr1 unit scale b.2.1, fr1 unit scale b.2.2.1, fr1 unit scale b.2.2.2)
theorem fractions_ok {unit scale : Int} {boxes : List IB} (hu : 1 ≤ unit ∧ unit ≤ 2 ^ 12) (hs : 1 ≤ scale ∧ scale ≤ 2 ^ 10) (hb : ∀ b ∈ boxes, BxS b) : m_law_line_fractions boxes unit scale = some (boxes.map (frX unit scale)) := by
  unfold m_law_line_fractions
  have one : ∀ x : Int, x.natAbs ≤ 2 ^ 18 → (mulR scale x >>= fun v3 => m_law_low v3 unit >>= fun v4 => some v4) = some (fr1 unit scale x) := fun x hx => by
    rw [mulR_s (by omega) (by omega), obind_some, low_eq, lowR_eq (by omega) (by omega)]; rfl
  refine Ok.eq (Ok.get (mapR_eq' (fun b : IB => [fr1 unit scale b.1, fr1 unit scale b.2.1, fr1 unit scale b.2.2.1, fr1 unit scale b.2.2.2]) _ fun b hbm => ?_) ?_)
  · obtain ⟨b1, b2, b3, b4⟩ := hb b hbm
    rw [mapR_eq' (fr1 unit scale) _ fun x hx => one x (by
      simp only [List.mem_cons, List.not_mem_nil, or_false] at hx
      rcases hx with rfl | rfl | rfl | rfl
      · exact b1
      · exact b2
      · exact b3
      · exact b4)]; rfl
  · refine Ok.get (v := boxes.map (frX unit scale)) ?_ (Ok.ret rfl)
    show mapR _ ((boxes.map _).map _) = _
    rw [mapR_map2, mapR_map2]
    exact mapR_eq' (frX unit scale) _ fun b _ => rfl
theorem fr1_Fd {D unit scale x : Int} (hu : 1 ≤ unit) (hd : unit ∣ D) (hs : 1 ≤ scale ∧ scale ≤ 2 ^ 10) (hx : x.natAbs ≤ 2 ^ 18) : Fd D (fr1 unit scale x) := by
  have h : unit ≠ 0 := by omega
  have m := (lowV_mul (n := scale * x) h).2
  refine ⟨lowV_pos h, Int.dvd_trans ⟨_, m.symm⟩ hd, ?_⟩
  have l := (lowV_le (n := scale * x) h).1
  have : (scale * x).natAbs ≤ 2 ^ 10 * 2 ^ 18 := by rw [Int.natAbs_mul]; exact Nat.mul_le_mul (by omega) hx
  show (lowV (scale * x) unit).1.natAbs ≤ _
  omega
theorem frX_FBk {D unit scale : Int} {b : IB} (hu : 1 ≤ unit) (hd : unit ∣ D) (hs : 1 ≤ scale ∧ scale ≤ 2 ^ 10) (hb : BxS b) : FBk D (frX unit scale b) :=
  ⟨fr1_Fd hu hd hs hb.1, fr1_Fd hu hd hs hb.2.1, fr1_Fd hu hd hs hb.2.2.1, fr1_Fd hu hd hs hb.2.2.2⟩
/-- a head whose things can be placed -/
structure HdP (h : Hd) : Prop where
  a : 1 ≤ h.1 ∧ h.1 ≤ 1000
  b : 1 ≤ h.2.1 ∧ h.2.1 ≤ 1000
  mo : 1 ≤ h.2.2.1 ∧ h.2.2.1 ≤ 3
  nd : (h.2.2.2.map (·.1)).Nodup
  few : h.2.2.2.length ≤ 100
  sk : ∀ y ∈ h.2.2.2.map (·.1), sOk y
  mv : ∀ t ∈ h.2.2.2, t.2.2 = true → t.2.1 ≠ "land"
theorem ok_placed {D : Int} (hD : DOk D) {n : Nat} {t : Tape} {head : Hd} {unit scale : Int} (H : HdP head) (g : Good n t) (hn : n < 600000000) (hu : 1 ≤ unit ∧ unit ≤ 3) (hd : unit ∣ D) (hs : 1 ≤ scale ∧ scale ≤ 2 ^ 10) :
    Ok (m_law_line_placed t head unit scale) fun x => Scn D head x.1 ∧ Good (n + 30000) x.2 := by
  unfold m_law_line_placed
  have d1 : ∀ h : Int, 1 ≤ h → h ≤ 1000 → mulR h unit = some (h * unit) ∧ fdivR (h * unit) scale = some ((h * unit).fdiv scale) ∧ (h * unit).fdiv scale ≤ 2 ^ 14 := fun h h0 h1 => by
    have m0 : 0 ≤ h * unit := Int.mul_nonneg (by omega) (by omega)
    have m1 : h * unit ≤ 1000 * 3 := Int.mul_le_mul h1 hu.2 (by omega) (by omega)
    refine ⟨mulR_s (by omega) (by omega), fdivR_s (by omega) (by omega), ?_⟩
    rw [Int.fdiv_eq_ediv_of_nonneg _ (by omega)]
    have := Int.ediv_le_self (a := h * unit) scale m0
    omega
  obtain ⟨w1, w2, w3⟩ := d1 head.1 H.a.1 H.a.2
  obtain ⟨k1, k2, k3⟩ := d1 head.2.1 H.b.1 H.b.2
  refine (ok_forI (fun i (s : Plc × Tape) => i ≤ head.2.2.2.length ∧ s.1.length = i ∧ (∀ (j : Nat) (t : Thg) (p : List FBx), head.2.2.2[j]? = some t → s.1[j]? = some p → (t.2.1 ≠ "land" → p.length = cond t.2.2 head.2.2.1.toNat 1) ∧ 1 ≤ p.length ∧ p.length ≤ 1000) ∧ (∀ p ∈ s.1, ∀ b ∈ p, FBk D b) ∧ Good (n + 300 * i) s.2) head.2.2.2 0 ([], t) ⟨Nat.zero_le _, rfl, fun j t p _ e => by simp at e, fun _ h => (nomatch h), g⟩ fun j x s hj hI => ?_).bind fun s hI => ?_
  · rw [Nat.zero_add] at hI
    obtain ⟨i1, i2, i3, i4, i5⟩ := hI
    have few := H.few
    have hjl : j < head.2.2.2.length := (List.getElem?_eq_some_iff.mp hj).1
    refine Ok.get w1 (Ok.get w2 (Ok.get k1 (Ok.get k2 ?_)))
    refine (ok_boxes i5 (by omega) w3 k3 H.mo.1 (by have := H.mo.2; omega)).bind fun v ⟨b1, b2, b3, b4, b5⟩ => ?_
    refine Ok.get (fractions_ok ⟨hu.1, by omega⟩ hs b4) (Ok.get (pushR_eq (by omega)) (Ok.ret ?_))
    rw [Nat.zero_add]
    refine ⟨by omega, ?_, fun k t p ht hp => ?_, fun p hp b hb => ?_, b5.mono (by omega)⟩
    · show (s.1 ++ [_]).length = j + 1; simp [i2]
    · have hp : (s.1 ++ [v.1.map (frX unit scale)])[k]? = some p := hp
      by_cases hk : k < s.1.length
      · rw [List.getElem?_append_left hk] at hp
        exact i3 k t p ht hp
      · have : k = j := by
          have := (List.getElem?_eq_some_iff.mp hp).1
          simp at this; omega
        subst this
        rw [List.getElem?_append_right (by omega), i2, Nat.sub_self] at hp
        have hp : some (v.1.map (frX unit scale)) = some p := hp
        cases hp
        rw [hj] at ht
        cases ht
        rw [List.length_map]
        exact ⟨b1, b2, b3⟩
    · rcases List.mem_append.mp hp with h | h
      · exact i4 p h b hb
      · rw [List.mem_singleton.mp h] at hb
        obtain ⟨b', hb', rfl⟩ := List.mem_map.mp hb
        exact frX_FBk hu.1 hd hs (b4 b' hb')
  · rw [Nat.zero_add] at hI
    obtain ⟨i1, i2, i3, i4, i5⟩ := hI
    have few := H.few
    refine Ok.ret ⟨⟨hD, H.nd, i2, H.few, ⟨H.mo.1, by have := H.mo.2; omega⟩, fun j t p ht hp => ?_, i4⟩, i5.mono (by omega)⟩
    obtain ⟨a1, a2, a3⟩ := i3 j t p ht hp
    refine ⟨fun hm => ?_, fun hm nl => ?_, a2, a3⟩
    · have nl := H.mv t (List.mem_of_getElem? ht) hm
      refine ⟨nl, ?_⟩
      rw [a1 nl, hm]; rfl
    · rw [a1 nl, hm]; rfl
/-- a drawn scene -/
structure Sce (D : Int) (head : Hd) (placing : Plc) (name : Str) (m : Int) : Prop where
  S : Scn D head placing
  H : HdP head
  nm : name ∈ head.2.2.2.map (·.1)
  m0 : 0 ≤ m
  m1 : m < head.2.2.1
  sp : ∃ t ∈ head.2.2.2, t.2.1 = "spot"
theorem d6 : DOk 6 := ⟨by decide, by decide⟩
theorem ok_scene {n : Nat} {t : Tape} {many : Int} (g : Good n t) (hn : n < 500000000) (hm : many ≤ 50) : Ok (m_law_line_scene t many) fun x => Sce 6 x.1.1 x.1.2.1 x.1.2.2.1 x.1.2.2.2 ∧ Good (n + 40000) x.2 := by
  unfold m_law_line_scene
  refine (ok_draw g (by omega) (by omega)).bind fun v1 ⟨a1, a2, g1⟩ => ?_
  refine (ok_rng1 (P := fun r => r = rangeI 0 (1 + v1.1)) (by unfold CRng; omega) rfl).bind fun v2 e2 => ?_
  subst e2
  refine (ok_forS (fun i (s : List Str × Tape) => ("spot" : Str) ∈ s.1 ∧ s.1.length = 1 + i ∧ Good (n + 1 + i) s.2) (rangeI 0 (1 + v1.1)) 0 ([("spot" : Str)], v1.2) ⟨List.mem_singleton.mpr rfl, rfl, g1⟩ fun i x s _ _ hi ⟨b1, b2, b3⟩ => ?_).bind fun s ⟨b1, b2, b3⟩ => ?_
  · rw [len_rangeI] at hi
    refine (ok_pick b3 (by omega) (by show 0 < 8; decide) (by show 8 < _; decide)).bind fun v ⟨_, gv⟩ => ?_
    refine Ok.get (pushR_eq (by omega)) (Ok.ret ⟨List.mem_append.mpr (.inl b1), ?_, gv.mono (by omega)⟩)
    show (s.1 ++ [_]).length = _; simp [b2]; omega
  rw [len_rangeI] at b2 b3
  refine (ok_shuffled b3 (by omega) (by omega)).bind fun v7 ⟨pm, g7⟩ => ?_
  have l7 : v7.1.length = s.1.length := pm.length_eq
  have s7 : ("spot" : Str) ∈ v7.1 := pm.mem_iff.mpr b1
  refine (ok_head g7 (by omega) (by omega)).bind fun v8 ⟨H, g8⟩ => ?_
  refine (ok_pick g8 (by omega) (by show 0 < 8; decide) (by show 8 < _; decide)).bind fun v9 ⟨h9, g9⟩ => ?_
  have h9 : 1 ≤ v9.1 ∧ v9.1 ≤ 124 := by
    simp only [List.mem_cons, List.not_mem_nil, or_false] at h9; omega
  have hl8 : v8.1.2.2.2.length = v7.1.length := by rw [← H.so, List.length_map]
  have sc : ∀ h : Int, 3 ≤ h ∧ h ≤ 8 → mulR h v9.1 = some (h * v9.1) ∧ 1 ≤ h * v9.1 ∧ h * v9.1 ≤ 1000 := fun h ⟨h0, h1⟩ => by
    have m1 : h * v9.1 ≤ 8 * 124 := Int.mul_le_mul h1 h9.2 (by omega) (by omega)
    have m0 : 3 * 1 ≤ h * v9.1 := Int.mul_le_mul h0 h9.1 (by omega) (by omega)
    exact ⟨mulR_s (by omega) (by omega), by omega, by omega⟩
  obtain ⟨e1, f1, f2⟩ := sc v8.1.1 H.a
  obtain ⟨e2, f3, f4⟩ := sc v8.1.2.1 H.b
  refine Ok.get e1 (Ok.get e2 (Ok.lt ?_))
  refine (ok_pick g9 (by omega) (by show 0 < 5; decide) (by show 5 < _; decide)).bind fun v13 ⟨h13, g13⟩ => ?_
  have h13 : v13.1 = 1 ∨ v13.1 = 2 ∨ v13.1 = 3 := by
    simp only [List.mem_cons, List.not_mem_nil, or_false] at h13; omega
  have HP : HdP (v8.1.1 * v9.1, v8.1.2.1 * v9.1, v8.1.2.2.1, v8.1.2.2.2) := ⟨⟨f1, f2⟩, ⟨f3, f4⟩, H.mo, H.nd, by show v8.1.2.2.2.length ≤ 100; omega, H.sk, fun t ht hm z => by
    have := H.mv t ht hm
    rw [z] at this
    exact absurd this (by decide)⟩
  refine (ok_placed d6 HP g13 (by omega) (by omega) (by rcases h13 with h | h | h <;> (rw [h]; decide)) ⟨h9.1, by omega⟩).bind fun v14 ⟨S, g14⟩ => ?_
  refine Ok.get (fltR_eq' (fun t : Thg => decide (t.2.1 = ("spot" : Str))) (·.1) _ (fun _ _ => rfl) (fun _ _ => rfl)) ?_
  obtain ⟨t0, ht0, hs0⟩ : ∃ t ∈ v8.1.2.2.2, t.2.1 = ("spot" : Str) := by
    rw [← H.so] at s7
    obtain ⟨t, ht, e⟩ := List.mem_map.mp s7
    exact ⟨t, ht, e⟩
  have ne : 0 < ((v8.1.2.2.2.filter fun t : Thg => decide (t.2.1 = ("spot" : Str))).map (·.1)).length := by
    rw [List.length_map]
    exact List.length_pos_of_mem (List.mem_filter.mpr ⟨ht0, decide_eq_true hs0⟩)
  have le : ((v8.1.2.2.2.filter fun t : Thg => decide (t.2.1 = ("spot" : Str))).map (·.1)).length < 2 ^ 100 := by
    rw [List.length_map]
    have := List.length_filter_le (fun t : Thg => decide (t.2.1 = ("spot" : Str))) v8.1.2.2.2
    omega
  refine (ok_pick g14 (by omega) ne le).bind fun v17 ⟨h17, g17⟩ => ?_
  have mo := H.mo
  refine (ok_draw g17 (by omega) (by show v8.1.2.2.1 < _; omega)).bind fun v18 ⟨c1, c2, g18⟩ => ?_
  have c2 : v18.1 < max v8.1.2.2.1 1 := c2
  refine Ok.lt (Ok.ret ⟨⟨S, HP, ?_, c1, by show v18.1 < v8.1.2.2.1; omega, t0, ht0, hs0⟩, g18.mono (by omega)⟩)
  obtain ⟨t, ht, e⟩ := List.mem_map.mp h17
  exact List.mem_map.mpr ⟨t, (List.mem_filter.mp ht).1, e⟩
/-! ### ways -/
/-- where one looks from -/
structure Pt (D unit : Int) (head : Hd) (placing : Plc) (name : Str) (m : Int) : Prop where
  S : Scn D head placing
  U : UOk unit
  dv : ∀ p ∈ placing, ∀ b ∈ p, DvB unit b
  nm : name ∈ head.2.2.2.map (·.1)
  m0 : 0 ≤ m
  m1 : m < head.2.2.1
section
variable {D unit m : Int} {head : Hd} {placing : Plc} {name : Str}
theorem Pt.ln (P : Pt D unit head placing name m) {u v : Int} (w : Way u v) : Ln D unit head placing name m u v := ⟨P.S, P.U, P.dv, P.nm, P.m0, P.m1, w⟩
theorem Pt.bs (P : Pt D unit head placing name m) {n : Str} (hn : n ∈ head.2.2.2.map (·.1)) {b : FBx} (hb : b ∈ bsOf head placing n m) : FBk D b ∧ DvB unit b := by
  refine ⟨bs_F P.S hn P.m0 P.m1 b hb, ?_⟩
  obtain ⟨p, hp, hb⟩ := (bs_ok P.S hn P.m0 P.m1).2.2.2.2.1 b hb
  exact P.dv p hp b hb
theorem abs_max_le {a b k : Int} (h : maxI (absI a) (absI b) ≤ k) : a.natAbs ≤ k ∧ b.natAbs ≤ k := by
  unfold maxI at h
  rw [absI_nat, absI_nat] at h
  split at h <;> omega
theorem way_sc {s a b most : Int} (hs : s = 1 ∨ s = 2 ∨ s = 3) (hm : s * maxI (absI a) (absI b) ≤ most) (h1 : most ≤ 99) (h : a ≠ 0 ∨ b ≠ 0) : Way (s * a) (s * b) := by
  obtain ⟨k1, k2⟩ := abs_max_le (Int.le_refl (maxI (absI a) (absI b)))
  generalize maxI (absI a) (absI b) = mx at *
  unfold Way
  rcases hs with h | h | h <;> (rw [h] at hm ⊢; omega)
theorem way_ax {s : Int} {p : Int × Int} (hs : s = 1 ∨ s = 2 ∨ s = 3) (hp : p = (1, 0) ∨ p = (0, 1) ∨ p = (-1, 0) ∨ p = (0, -1)) : Way (s * p.1) (s * p.2) ∧ p.1.natAbs ≤ 1 ∧ p.2.natAbs ≤ 1 := by
  unfold Way
  rcases hp with h | h | h | h <;> rcases hs with h' | h' | h' <;> (rw [h, h']; decide)
theorem diff_b {v a b x : Int} (h : v ∈ [a, b]) (ha : a.natAbs ≤ 2 ^ 51) (hb : b.natAbs ≤ 2 ^ 51) (hx : x.natAbs ≤ 2 ^ 51) : (v - x).natAbs < 2 ^ 100 := by
  simp only [List.mem_cons, List.not_mem_nil, or_false] at h
  rcases h with rfl | rfl <;> omega
theorem Pt.ok_way (P : Pt D unit head placing name m) {n : Nat} {t : Tape} {most : Int} (g : Good n t) (hn : n < 900000000) (h0 : 1 ≤ most) (h1 : most ≤ 99) :
    Ok (m_law_line_way t (wdV head unit placing) (name, m) most) fun x => Way x.1.1 x.1.2 ∧ Good (n + 20) x.2 := by
  unfold m_law_line_way
  refine Ok.get (line_spot_ok P.S P.nm P.m0 P.m1 unit) ?_
  refine (ok_draw g (by omega) (by decide)).bind fun v2 ⟨_, _, g2⟩ => ?_
  obtain ⟨i, hi, _⟩ := List.getElem_of_mem P.nm
  have few := P.S.few
  refine (ok_pick (menu := head.2.2.2) g2 (by omega) (by rw [List.length_map] at hi; omega) (by omega)).bind fun v3 ⟨h3, g3⟩ => ?_
  have hn3 : v3.1.1 ∈ head.2.2.2.map (·.1) := List.mem_map.mpr ⟨_, h3, rfl⟩
  obtain ⟨_, q2, q3, q4, _, _⟩ := bs_ok P.S hn3 P.m0 P.m1
  refine Ok.get (q2 unit) ?_
  refine (ok_pick g3 (by omega) (by rw [List.length_map]; omega) (by rw [List.length_map]; omega)).bind fun v5 ⟨h5, g5⟩ => ?_
  obtain ⟨b, hb, eb⟩ := List.mem_map.mp h5
  obtain ⟨fb, db⟩ := P.bs hn3 hb
  have tb := toI_b P.S.dok fb db P.U.1 P.U.2
  rw [eb] at tb
  obtain ⟨t1, t2, t3, t4⟩ := tb
  obtain ⟨rest, er⟩ := b0_mem P.S P.nm P.m0 P.m1
  obtain ⟨f0, dv0⟩ := P.bs P.nm (b := b0Of head placing name m) (by rw [er]; exact List.mem_cons_self ..)
  have t0 := toI_b P.S.dok f0 dv0 P.U.1 P.U.2
  obtain ⟨s1, s2, _, _⟩ := t0
  have s1 : (wI unit (b0Of head placing name m).1).natAbs ≤ 2 ^ 51 := s1
  have s2 : (wI unit (b0Of head placing name m).2.1).natAbs ≤ 2 ^ 51 := s2
  dsimp only
  generalize wI unit (b0Of head placing name m).1 = x0 at *
  generalize wI unit (b0Of head placing name m).2.1 = y0 at *
  refine (ok_pick g5 (by omega) (by show 0 < 2; decide) (by show 2 < _; decide)).bind fun v6 ⟨h6, g6⟩ => Ok.lt ?_
  refine (ok_pick g6 (by omega) (by show 0 < 2; decide) (by show 2 < _; decide)).bind fun v8 ⟨h8, g8⟩ => Ok.lt ?_
  have b6 := diff_b h6 t1 t3 s1
  have b8 := diff_b h8 t2 t4 s2
  clear s1 s2 t1 t2 t3 t4
  generalize v6.1 - x0 = u at *
  generalize v8.1 - y0 = v at *
  refine (ok_pick g8 (by omega) (by show 0 < 4; decide) (by show 4 < _; decide)).bind fun v10 ⟨h10, g10⟩ => ?_
  have h10 : v10.1 = 1 ∨ v10.1 = 2 ∨ v10.1 = 3 := by
    simp only [List.mem_cons, List.not_mem_nil, or_false] at h10; omega
  refine Ok.bind (P := fun o => match o with
    | .nx _ => True
    | .rt x => Way x.1.1 x.1.2 ∧ Good (n + 20) x.2
    | .bk _ => False
    | .ct _ => False) (Ok.cond (fun hc => ?_) (fun _ => Ok.ret trivial)) fun o ho => ?_
  · have hc : u ≠ 0 ∨ v ≠ 0 := by
      simp only [Bool.and_eq_true, Bool.or_eq_true, Bool.not_eq_true', decide_eq_false_iff_not] at hc
      exact hc.2
    refine (ok_plain hc b6 b8).bind fun w ⟨w1, w2, w3⟩ => ?_
    have w2 := Nat.lt_of_le_of_lt w2 b6
    have w3 := Nat.lt_of_le_of_lt w3 b8
    have mb : (maxI (absI w.1) (absI w.2)).natAbs < 2 ^ 100 := by
      unfold maxI; rw [absI_nat, absI_nat]; split <;> omega
    refine Ok.get (mulR_s (by omega) (by omega)) (Ok.cond (fun hm => ?_) (fun _ => Ok.ret trivial))
    have hm := of_decide_eq_true hm
    refine Ok.get (mulR_s (by omega) (by omega)) (Ok.get (mulR_s (by omega) (by omega)) (Ok.ret ⟨?_, g10.mono (by omega)⟩))
    exact way_sc h10 hm h1 w1
  · cases o with
    | bk _ => exact ho.elim
    | ct _ => exact ho.elim
    | rt x => exact Ok.ret ho
    | nx _ =>
      refine Ok.cond (fun _ => ?_) (fun _ => ?_)
      · refine (ok_pick g10 (by omega) (by show 0 < 4; decide) (by show 4 < _; decide)).bind fun v16 ⟨h16, g16⟩ => ?_
        have h16 : v16.1 = (1, 0) ∨ v16.1 = (0, 1) ∨ v16.1 = (-1, 0) ∨ v16.1 = (0, -1) := by simpa using h16
        have hw := way_ax h10 h16
        exact Ok.get (mulR_s (by omega) (by omega)) (Ok.get (mulR_s (by omega) (by omega)) (Ok.ret ⟨hw.1, g16.mono (by omega)⟩))
      · refine Ok.get (mulR_s (by decide) (by omega)) ?_
        refine (ok_draw g10 (by omega) (by omega)).bind fun v20 ⟨a1, a2, g20⟩ => Ok.lt ?_
        refine (ok_draw g20 (by omega) (by decide)).bind fun v22 ⟨c1, c2, g22⟩ => Ok.lt ?_
        refine (ok_draw g22 (by omega) (by decide)).bind fun v24 ⟨_, _, g24⟩ => ?_
        have a2 : v20.1 < max (2 * most + 1) 1 := a2
        have c2 : v22.1 < max 7 1 := c2
        have key : ∀ (p : Int × Int), (v20.1 - most ≠ 0 ∨ v22.1 - 3 ≠ 0 → Way p.1 p.2) → ∀ q : Int × Int, Way q.1 q.2 → Way (cond ((!decide (v20.1 - most = 0)) || (!decide (v22.1 - 3 = 0))) p q).1 (cond ((!decide (v20.1 - most = 0)) || (!decide (v22.1 - 3 = 0))) p q).2 := fun p hp q hq => by
          cases hcc : ((!decide (v20.1 - most = 0)) || (!decide (v22.1 - 3 = 0))) with
          | true =>
            refine hp ?_
            simp only [Bool.or_eq_true, Bool.not_eq_true', decide_eq_false_iff_not] at hcc
            exact hcc
          | false => exact hq
        refine Ok.cond (fun _ => Ok.ret ⟨key _ (fun h => ?_) _ ?_, g24.mono (by omega)⟩) (fun _ => Ok.ret ⟨key _ (fun h => ?_) _ ?_, g24.mono (by omega)⟩)
        · clear key; unfold Way; dsimp only; omega
        · clear key; unfold Way; decide
        · clear key; unfold Way; dsimp only; omega
        · clear key; unfold Way; decide
end
/-! ### marks -/
theorem ok_mark {n : Nat} {t : Tape} {o : Option P2} (g : Good n t) (hn : n < 800000000) (ho : ∀ f, o = some f → FBd 53 f) : Ok (m_law_line_mark t o) fun x => FBd 57 x.1 ∧ 0 ≤ x.1.1 ∧ Good (n + 10) x.2 := by
  unfold m_law_line_mark
  refine Ok.bind (P := fun s => ∃ f, s.1 = some f ∧ FBd 53 f ∧ Good (n + 2) s.2) ?_ fun s ⟨f, ef, hf, gs⟩ => ?_
  · cases o with
    | none => exact (ok_fraction g (by omega) (by decide) (by decide) (by decide)).bind fun v ⟨a, _, b⟩ => Ok.ret ⟨_, rfl, a.mono (by omega), b⟩
    | some f => exact Ok.ret ⟨f, rfl, ho f rfl, g.mono (by omega)⟩
  obtain ⟨s1, s2⟩ := s
  have ef : s1 = some f := ef
  subst ef
  refine (ok_draw gs (by omega) (by decide)).bind fun v3 ⟨a1, a2, g3⟩ => ?_
  have a2 : v3.1 < max 6 1 := a2
  refine (ok_low (P := fun q => FBd 3 q) (by omega) (by omega) (low_FBd (by decide) (by omega) (by omega))).bind fun v4 h4 => ?_
  refine Ok.get (v := f) rfl (Ok.get (law_plus_eq2 hf h4 (by omega)) (Ok.get (v := f) rfl (Ok.get (law_minus_eq2 hf h4 (by omega)) ?_)))
  have p1 := add_FBd hf h4
  have p2 := sub_FBd hf h4
  refine (ok_fraction g3 (by omega) (by decide) (by decide) (by decide)).bind fun v9 ⟨f9, _, g9⟩ => Ok.lt ?_
  refine (ok_pick g9 (by omega) (by show 0 < 7; decide) (by show 7 < _; decide)).bind fun v11 ⟨h11, g11⟩ => ?_
  have h11 : ∃ q, v11.1 = some q ∧ FBd 57 q := by
    simp only [List.mem_cons, List.not_mem_nil, or_false] at h11
    rcases h11 with h | h | h | h | h | h | h
    · exact ⟨_, h, hf.mono (by omega)⟩
    · exact ⟨_, h, hf.mono (by omega)⟩
    · exact ⟨_, h, hf.mono (by omega)⟩
    · exact ⟨_, h, p1⟩
    · exact ⟨_, h, p2⟩
    · exact ⟨_, h, ok_mark0.mono (by omega)⟩
    · exact ⟨_, h, f9.mono (by omega)⟩
  obtain ⟨q, eq, hq⟩ := h11
  refine Ok.get eq ?_
  refine Ok.bind (P := fun c => FBd 57 c ∧ 0 ≤ c.1) (Ok.cond (fun h => ?_) (fun _ => Ok.ret ⟨ok_mark0.mono (by omega), by decide⟩)) fun c hc => Ok.ret ⟨hc.1, hc.2, g11.mono (by omega)⟩
  exact Ok.get eq (Ok.ret ⟨hq, of_decide_eq_true h⟩)
/-! ### one place told otherwise -/
theorem put_set {xs : List U} {k : Nat} {x : U} (hk : k < xs.length) (hl : xs.length ≤ 1000000) : m_law_put xs (k : Int) x = some (xs.set k x) := by
  have c1 : cutR xs none (some (k : Int)) = xs.take k := by
    unfold cutR
    rw [HT.sIx_nat, HT.sIx_none]
    rw [List.drop_zero, Nat.sub_zero, Nat.min_eq_left (by omega)]
  have c2 : cutR xs (some ((k : Int) + 1)) none = xs.drop (k + 1) := by
    unfold cutR
    rw [show ((k : Int) + 1) = ((k + 1 : Nat) : Int) by omega, HT.sIx_nat, HT.sIx_none, Nat.min_eq_left (by omega)]
    exact List.take_of_length_le (by rw [List.length_drop]; omega)
  unfold m_law_put
  rw [c1, c2]
  refine Ok.eq ?_
  refine (ok_cat (P := fun v => v = xs.take k ++ [x]) (by rw [List.length_take]; simp; omega) rfl).bind fun v1 e1 => ?_
  subst e1
  refine (ok_cat (P := fun v => v = xs.take k ++ [x] ++ xs.drop (k + 1)) (by simp; omega) rfl).bind fun v2 e2 => Ok.ret ?_
  rw [e2, List.set_eq_take_append_cons_drop, if_pos hk]
  simp
theorem Scn.set {D : Int} {head : Hd} {pl pl' : Plc} {k : Nat} {p : List FBx} (S : Scn D head pl) (S' : Scn D head pl') (hp : pl'[k]? = some p) : Scn D head (pl.set k p) := by
  refine ⟨S.dok, S.nd, by rw [List.length_set]; exact S.len, S.few, S.mo, fun i t q ht hq => ?_, fun q hq => ?_⟩
  · by_cases hik : k = i
    · subst hik
      rw [List.getElem?_set, if_pos rfl] at hq
      split at hq
      · cases hq
        exact S'.shape k t p ht hp
      · cases hq
    · rw [List.getElem?_set, if_neg hik] at hq
      exact S.shape i t q ht hq
  · rcases List.mem_or_eq_of_mem_set hq with h | h
    · exact S.ok q h
    · rw [h]; exact S'.ok p (List.mem_of_getElem? hp)
theorem add_less {p q : P2} (hp : 0 < p.2) (hq : 0 < q.2) (h0 : 0 ≤ q.1) : ¬ lessP (addV p q) p := by
  unfold lessP addV
  rw [low_less_l (Int.mul_pos hp hq)]
  have a : 0 ≤ q.1 * p.2 * p.2 := Int.mul_nonneg (Int.mul_nonneg h0 (by omega)) (by omega)
  have e : (p.1 * q.2 + q.1 * p.2) * p.2 = p.1 * (p.2 * q.2) + q.1 * p.2 * p.2 := by grind
  omega
theorem add_nonneg {p q : P2} (hp : 0 < p.2) (hq : 0 < q.2) (h1 : 0 ≤ p.1) (h0 : 0 ≤ q.1) : 0 ≤ (addV p q).1 := by
  have pos := Int.mul_pos hp hq
  have m := (lowV_mul (n := p.1 * q.2 + q.1 * p.2) (d := p.2 * q.2) (by omega)).1
  have s : 0 < sgR (p.1 * q.2 + q.1 * p.2) (p.2 * q.2) := by unfold sgR; rw [if_neg (by omega)]; exact gcdI_pos (by omega)
  refine Int.not_lt.mp fun z => ?_
  have := Int.mul_neg_of_neg_of_pos z s
  have a : 0 ≤ p.1 * q.2 := Int.mul_nonneg h1 (by omega)
  have b : 0 ≤ q.1 * p.2 := Int.mul_nonneg h0 (by omega)
  unfold addV at this
  omega
end Ty

set_option maxHeartbeats 4000000
/-! the names of the first things along a line: plain Lean -/
namespace Ty
open PySem L2
/-- one more thing along the line -/
def stepF {α : Type} (τ : α → Option P2) (nm : α → Str) (s : List Str × Option P2) (z : α) : List Str × Option P2 := match τ z with
  | none => s
  | some q => match s.2 with
    | none => ([nm z], some q)
    | some p => if lessP q p then ([nm z], some q) else if lessP p q then s else (s.1 ++ [nm z], some p)
theorem stepF_best {α : Type} {τ : α → Option P2} {nm : α → Str} (s : List Str × Option P2) (z : α) : (stepF τ nm s z).2 = better (τ z) s.2 := by
  obtain ⟨ns, b⟩ := s
  unfold stepF
  cases τ z with
  | none => rfl
  | some q => cases b with
    | none => rfl
    | some p =>
      show _ = if lessP q p then some q else some p
      dsimp only
      by_cases h : lessP q p
      · rw [if_pos h, if_pos h]
      · rw [if_neg h, if_neg h]; split <;> rfl
theorem foldF_best {α : Type} {τ : α → Option P2} {nm : α → Str} : ∀ (L : List α) (s : List Str × Option P2), (L.foldl (stepF τ nm) s).2 = L.foldl (fun s c => better (τ c) s) s.2
  | [], _ => rfl
  | z :: L, s => by
    rw [List.foldl_cons, List.foldl_cons, foldF_best L, stepF_best]
theorem stepF_len {α : Type} {τ : α → Option P2} {nm : α → Str} (s : List Str × Option P2) (z : α) : (stepF τ nm s z).1.length ≤ s.1.length + 1 := by
  obtain ⟨ns, b⟩ := s
  unfold stepF
  cases τ z with
  | none => show ns.length ≤ ns.length + 1; omega
  | some q => cases b with
    | none => show 1 ≤ ns.length + 1; omega
    | some p =>
      dsimp only
      split
      · show 1 ≤ ns.length + 1; omega
      · split
        · show ns.length ≤ ns.length + 1; omega
        · show (ns ++ [nm z]).length ≤ _; simp
theorem foldF_len {α : Type} {τ : α → Option P2} {nm : α → Str} : ∀ (L : List α) (s : List Str × Option P2), (L.foldl (stepF τ nm) s).1.length ≤ s.1.length + L.length
  | [], _ => Nat.le_refl _
  | z :: L, s => by
    have := foldF_len (τ := τ) (nm := nm) L (stepF τ nm s z)
    have := stepF_len (τ := τ) (nm := nm) s z
    rw [List.foldl_cons, List.length_cons]; omega
/-- the law's -/
theorem firsts_eq {x y u v : Int} (τ : Str × List IB → Option P2) : ∀ (L : List (Str × List IB)) (s : Option P2 × List Str), s.2.length + L.length ≤ 1000000 → OB s.1 → (∀ c ∈ L, m_law_met c.2 x y u v = some (τ c) ∧ OB (τ c)) →
    Ok (forS L s (fun x2 (s1 : ((Option (Int × Int)) × (List Str))) => m_law_met x2.2 x y u v >>= fun v3 =>
 ((cond v3.isSome (m_law_line_less s1.1 v3 >>= fun v5 =>
 some (!v5)) (some false)) >>= fun c6 =>
 cond c6 ((m_law_line_less v3 s1.1 >>= fun v8 =>
 cond v8 (some (v3, ([] : (List Str)))) (some (s1.1, s1.2))) >>= fun s7 =>
 pushR s7.2 x2.1 >>= fun v9 =>
 some (s7.1, v9.2)) (some (s1.1, s1.2))) >>= fun s4 =>
 some (s4.1, s4.2))) fun r => (r.2, r.1) = L.foldl (stepF τ (·.1)) (s.2, s.1)
  | [], s, _, _, _ => ⟨s, rfl, rfl⟩
  | c :: L, (best, names), hl, hs, h => by
    obtain ⟨e, ho⟩ := h c (List.mem_cons_self ..)
    have hl : names.length + (L.length + 1) ≤ 1000000 := hl
    have hs : OB best := hs
    refine Ok.bind (P := fun s' => (s'.2, s'.1) = stepF τ (·.1) (names, best) c) (Ok.get e ?_) fun s' e1 => ?_
    · unfold stepF
      cases ht : τ c with
      | none => exact ⟨(best, names), rfl, rfl⟩
      | some q =>
        rw [ht] at ho
        show Ok (((m_law_line_less best (some q) >>= fun v5 => some (!v5)) >>= fun c6 => _) >>= _) _
        rw [line_less_eq hs ho]
        show Ok ((cond (!lessO best (some q)) ((m_law_line_less (some q) best >>= fun v8 => cond v8 (some (some q, ([] : List Str))) (some (best, names))) >>= fun s7 => pushR s7.2 c.1 >>= fun v9 => some (s7.1, v9.2)) (some (best, names))) >>= fun s4 => some (s4.1, s4.2)) _
        rw [line_less_eq ho hs]
        show Ok ((cond (!lessO best (some q)) ((cond (lessO (some q) best) (some (some q, ([] : List Str))) (some (best, names))) >>= fun s7 => pushR s7.2 c.1 >>= fun v9 => some (s7.1, v9.2)) (some (best, names))) >>= fun s4 => some (s4.1, s4.2)) _
        cases best with
        | none => exact ⟨(some q, [c.1]), rfl, rfl⟩
        | some p =>
          show Ok ((cond (!decide (lessP p q)) ((cond (decide (lessP q p)) (some (some q, ([] : List Str))) (some (some p, names))) >>= fun s7 => pushR s7.2 c.1 >>= fun v9 => some (s7.1, v9.2)) (some (some p, names))) >>= fun s4 => some (s4.1, s4.2)) fun s' => (s'.2, s'.1) = (if lessP q p then ([c.1], some q) else if lessP p q then (names, some p) else (names ++ [c.1], some p))
          by_cases h1 : lessP p q
          · have h2 : ¬ lessP q p := by unfold lessP at *; omega
            rw [decide_eq_true h1, if_neg h2, if_pos h1]
            exact ⟨(some p, names), rfl, rfl⟩
          · rw [decide_eq_false h1]
            by_cases h2 : lessP q p
            · rw [decide_eq_true h2, if_pos h2]
              exact ⟨(some q, [c.1]), rfl, rfl⟩
            · rw [decide_eq_false h2, if_neg h2, if_neg h1]
              show Ok (((some (some p, names) : Option (Option P2 × List Str)) >>= fun s7 => pushR s7.2 c.1 >>= fun v9 => some (s7.1, v9.2)) >>= fun s4 => some (s4.1, s4.2)) _
              rw [obind_some]
              dsimp only
              rw [pushR_eq (show names.length < 1000000 by omega)]
              exact ⟨(some p, names ++ [c.1]), rfl, rfl⟩
    · obtain ⟨b1, n1⟩ := s'
      have e1 : (n1, b1) = stepF τ (·.1) (names, best) c := e1
      have l1 : n1.length ≤ names.length + 1 := by
        have := stepF_len (τ := τ) (nm := (·.1)) (names, best) c
        rw [← e1] at this; exact this
      have hb : b1 = better (τ c) best := by
        have := stepF_best (τ := τ) (nm := (·.1)) (names, best) c
        rw [← e1] at this; exact this
      rw [List.foldl_cons, ← e1]
      exact firsts_eq τ L (b1, n1) (by show n1.length + L.length ≤ _; omega) (by rw [hb]; exact better_OB ho hs) fun c' hc' => h c' (List.mem_cons_of_mem _ hc')
/-- the program's -/
theorem among_eq {u v : Int} (hw : Way u v) : ∀ (Z : List (Str × IB)) (s : List Str × Option P2), s.1.length + Z.length ≤ 1000000 → OB s.2 → (∀ z ∈ Z, BdB z.2) →
    Ok (forS Z s (fun x2 (s1 : ((List Str) × (Option (Int × Int)))) => m_entry x2.2 (u, v) >>= fun v3 =>
 cond v3.isNone (some (s1.1, s1.2)) (((cond s1.2.isNone (some true) (v3 >>= fun v5 =>
 s1.2 >>= fun v6 =>
 m_is_sooner v5 v6 >>= fun v7 =>
 some v7)) >>= fun c8 =>
 cond c8 (some ([x2.1], v3)) ((s1.2 >>= fun v10 =>
 v3 >>= fun v11 =>
 m_is_sooner v10 v11 >>= fun v12 =>
 cond (!v12) (pushR s1.1 x2.1 >>= fun v13 =>
 some v13.2) (some s1.1)) >>= fun s9 =>
 some (s9, s1.2))) >>= fun s4 =>
 some (s4.1, s4.2)))) fun r => r = Z.foldl (stepF (fun z => ent z.2 u v) (·.1)) s
  | [], s, _, _, _ => ⟨s, rfl, rfl⟩
  | z :: Z, (found, least), hl, hs, h => by
    have hl : found.length + (Z.length + 1) ≤ 1000000 := hl
    have hs : OB least := hs
    have hz := h z (List.mem_cons_self ..)
    have he : OB (ent z.2 u v) := fun p e => ent_SB hz hw.b.1 hw.b.2 e
    refine Ok.bind (P := fun s' => s' = stepF (fun z => ent z.2 u v) (·.1) (found, least) z) (Ok.get (entry_eq hz hw.b.1 hw.b.2 hw.2.2) ?_) fun s' e1 => ?_
    · unfold stepF
      dsimp only
      cases ht : ent z.2 u v with
      | none => exact ⟨(found, least), rfl, rfl⟩
      | some q =>
        rw [ht] at he
        obtain ⟨⟨q1, q2⟩, _⟩ := he q rfl
        cases least with
        | none => exact ⟨([z.1], some q), rfl, rfl⟩
        | some p =>
          obtain ⟨⟨p1, p2⟩, _⟩ := hs p rfl
          show Ok (((m_is_sooner q p >>= fun v7 => some v7) >>= fun c8 => cond c8 (some ([z.1], some q)) ((m_is_sooner p q >>= fun v12 => cond (!v12) (pushR found z.1 >>= fun v13 => some v13.2) (some found)) >>= fun s9 => some (s9, some p))) >>= fun s4 => some (s4.1, s4.2)) fun s' => s' = (if lessP q p then ([z.1], some q) else if lessP p q then (found, some p) else (found ++ [z.1], some p))
          rw [sooner_eq q1 q2 p1 p2, sooner_eq p1 p2 q1 q2]
          show Ok ((cond (decide (lessP q p)) (some ([z.1], some q)) ((cond (!decide (lessP p q)) (pushR found z.1 >>= fun v13 => some v13.2) (some found)) >>= fun s9 => some (s9, some p))) >>= fun s4 => some (s4.1, s4.2)) _
          by_cases h1 : lessP q p
          · rw [decide_eq_true h1, if_pos h1]
            exact ⟨([z.1], some q), rfl, rfl⟩
          · rw [decide_eq_false h1, if_neg h1, pushR_eq (by omega)]
            by_cases h2 : lessP p q
            · rw [decide_eq_true h2, if_pos h2]; exact ⟨(found, some p), rfl, rfl⟩
            · rw [decide_eq_false h2, if_neg h2]; exact ⟨(found ++ [z.1], some p), rfl, rfl⟩
    · obtain ⟨f1, l1⟩ := s'
      have e1 : (f1, l1) = stepF (fun z => ent z.2 u v) (·.1) (found, least) z := e1
      have d : f1.length ≤ found.length + 1 := by
        have := stepF_len (τ := fun z : Str × IB => ent z.2 u v) (nm := (·.1)) (found, least) z
        rw [← e1] at this; exact this
      have hb : l1 = better (ent z.2 u v) least := by
        have := stepF_best (τ := fun z : Str × IB => ent z.2 u v) (nm := (·.1)) (found, least) z
        rw [← e1] at this; exact this
      rw [List.foldl_cons, ← e1]
      exact among_eq hw Z (f1, l1) (by show f1.length + Z.length ≤ _; omega) (by rw [hb]; exact better_OB he hs) fun z' hz' => h z' (List.mem_cons_of_mem _ hz')
theorem lessP_sc {k : Int} {p q : P2} (hk : 0 < k) : lessP (scP k p) (scP k q) ↔ lessP p q := by
  show k * p.1 * q.2 < k * q.1 * p.2 ↔ p.1 * q.2 < q.1 * p.2
  rw [Int.mul_assoc, Int.mul_assoc]
  constructor
  · intro h; exact Int.lt_of_mul_lt_mul_left h (by omega)
  · intro h; exact Int.mul_lt_mul_of_pos_left h hk
/-- measured otherwise -/
theorem foldF_sc {α : Type} {a b : Int} (ha : 0 < a) (hb : 0 < b) {τ1 τ2 : α → Option P2} {nm : α → Str} : ∀ (L : List α) (s1 s2 : List Str × Option P2), s1.1 = s2.1 → s1.2.map (scP a) = s2.2.map (scP b) → (∀ n ∈ L, (τ1 n).map (scP a) = (τ2 n).map (scP b)) → (L.foldl (stepF τ1 nm) s1).1 = (L.foldl (stepF τ2 nm) s2).1
  | [], _, _, h, _, _ => h
  | z :: L, (n1, b1), (n2, b2), h, h2, h3 => by
    have h : n1 = n2 := h
    subst h
    have h2 : b1.map (scP a) = b2.map (scP b) := h2
    have hz := h3 z (List.mem_cons_self ..)
    have key : (stepF τ1 nm (n1, b1) z).1 = (stepF τ2 nm (n1, b2) z).1 ∧ (stepF τ1 nm (n1, b1) z).2.map (scP a) = (stepF τ2 nm (n1, b2) z).2.map (scP b) := by
      unfold stepF
      cases e1 : τ1 z with
      | none =>
        rw [e1] at hz
        cases e2 : τ2 z with
        | none => exact ⟨rfl, h2⟩
        | some q => rw [e2] at hz; cases hz
      | some q1 =>
        rw [e1] at hz
        cases e2 : τ2 z with
        | none => rw [e2] at hz; cases hz
        | some q2 =>
          rw [e2] at hz
          have hz : scP a q1 = scP b q2 := Option.some.inj hz
          cases b1 with
          | none =>
            cases b2 with
            | none => exact ⟨rfl, congrArg some hz⟩
            | some p => cases h2
          | some p1 =>
            cases b2 with
            | none => cases h2
            | some p2 =>
              have hp : scP a p1 = scP b p2 := Option.some.inj h2
              have i1 : lessP q1 p1 ↔ lessP q2 p2 := by rw [← lessP_sc ha, hz, hp, lessP_sc hb]
              have i2 : lessP p1 q1 ↔ lessP p2 q2 := by rw [← lessP_sc ha, hz, hp, lessP_sc hb]
              dsimp only
              by_cases c1 : lessP q1 p1
              · rw [if_pos c1, if_pos (i1.mp c1)]; exact ⟨rfl, congrArg some hz⟩
              · rw [if_neg c1, if_neg (fun z => c1 (i1.mpr z))]
                by_cases c2 : lessP p1 q1
                · rw [if_pos c2, if_pos (i2.mp c2)]; exact ⟨rfl, congrArg some hp⟩
                · rw [if_neg c2, if_neg (fun z => c2 (i2.mpr z))]; exact ⟨rfl, congrArg some hp⟩
    exact foldF_sc ha hb L _ _ key.1 key.2 fun n hn => h3 n (List.mem_cons_of_mem _ hn)
def uF : P2 → U := uTup (uRC uInt (uR1 uInt))
theorem plain_uF {k : Nat} (f : P2) : Plain (k + 2) (uF f) := ⟨by show 2 ≤ 8000000; decide, fun x hx => by
  rcases List.mem_cons.mp hx with rfl | hx
  · trivial
  · rw [List.mem_singleton.mp hx]; trivial⟩
theorem plain_oF {k : Nat} (o : Option P2) : Plain (k + 2) (uOpt uF o) := by
  cases o with
  | none => trivial
  | some f => exact plain_uF f
theorem lessP_irr {p : P2} : ¬ lessP p p := by unfold lessP; omega
section
variable {D unit u v m : Int} {head : Hd} {placing : Plc} {name : Str}
/-- the names of the firsts, the number -/
def firstsV (head : Hd) (placing : Plc) (unit : Int) (name : Str) (m u v : Int) : List Str × Option P2 := (solidsV head).foldl (stepF (tnV head placing unit name m u v) id) ([], none)
theorem firstsV_2 : (firstsV head placing unit name m u v).2 = firstV head placing unit name m u v := by
  unfold firstsV firstV firstT
  rw [foldF_best, List.foldl_map]
def othV (head : Hd) (placing : Plc) (unit : Int) (name : Str) (m u v : Int) (who : Str) : Option P2 := firstT (((solidsV head).filter fun n => !decide (n = who)).map (tnV head placing unit name m u v))
variable (L : Ln D unit head placing name m u v)
include L
theorem Ln.line_firsts_eq : m_law_line_firsts ((solidsV head).map fun n => (n, (bsOf head placing n m).map (toI unit))) (wI unit (spotV head placing name m).1) (wI unit (spotV head placing name m).2) u v = some (firstsV head placing unit name m u v) := by
  refine Ok.eq ?_
  unfold m_law_line_firsts
  have few := L.sol_few
  refine (firsts_eq (fun c => tnV head placing unit name m u v c.1) _ (none, []) (by rw [List.length_map]; show 0 + _ ≤ _; omega) (fun _ h => nomatch h) fun c hc => ?_).bind fun r e => Ok.ret ?_
  · obtain ⟨n, hn, rfl⟩ := List.mem_map.mp hc
    exact ⟨L.met (sol_mem hn), (L.tn_NB (sol_mem hn)).OB⟩
  · rw [e, List.foldl_map]; rfl
theorem Ln.firsts_of_eq : m_firsts_of head placing (name, m) (u, v) = some ((firstsV head placing unit name m u v).1, numV unit (firstV head placing unit name m u v)) := by
  refine Ok.eq ?_
  unfold m_firsts_of
  refine Ok.get solids_of_eq (Ok.get (spot_at_ok L.S L.nm L.m0 L.m1) ?_)
  have hb : m_boxes_at head placing m (solidsV head) = some ((solidsV head).map fun n => b0Of head placing n m) := by
    unfold m_boxes_at
    rw [mapR_eq' (fun n => b0Of head placing n m) _ fun n hn => by rw [box_of_ok L.S (sol_mem hn) L.m0 L.m1]; rfl]; rfl
  refine Ok.get hb ?_
  obtain ⟨sp, d1, d2⟩ := L.sp
  have hF : ∀ b ∈ (solidsV head).map fun n => b0Of head placing n m, FBk D b := fun b hb => by
    obtain ⟨n, hn, rfl⟩ := List.mem_map.mp hb
    exact (L.b0 (sol_mem hn)).1
  have hV : ∀ b ∈ (solidsV head).map fun n => b0Of head placing n m, DvB unit b := fun b hb => by
    obtain ⟨n, hn, rfl⟩ := List.mem_map.mp hb
    exact (L.b0 (sol_mem hn)).2
  have few := L.sol_few
  refine (around_ok L.S.dok sp hF (by rw [List.length_map]; omega)).bind fun r ⟨s, e, hs, s1, s2, s3⟩ => ?_
  subst e
  have us : UOk s := ⟨hs.1, by have := hs.le L.S.dok; omega⟩
  have z1 : (solidsV head).zip (((solidsV head).map fun n => b0Of head placing n m).map (relF s (spotV head placing name m))) = (solidsV head).map fun n => (n, relF s (spotV head placing name m) (b0Of head placing n m)) := by
    rw [List.map_map]
    have : ∀ xs : List Str, xs.zip (xs.map (relF s (spotV head placing name m) ∘ fun n => b0Of head placing n m)) = xs.map fun n => (n, relF s (spotV head placing name m) (b0Of head placing n m)) := by
      intro xs
      induction xs with
      | nil => rfl
      | cons x xs ih => rw [List.map_cons, List.zip_cons_cons, ih]; rfl
    exact this _
  refine Ok.bind (P := fun r => r = (solidsV head).foldl (stepF (fun n => ent (relF s (spotV head placing name m) (b0Of head placing n m)) u v) id) ([], none)) ?_ fun r er => ?_
  · unfold m_firsts_among
    refine (among_eq L.w _ ([], none) (by rw [List.length_zip, List.length_map, List.length_map]; show 0 + _ ≤ _; omega) (fun _ h => nomatch h) fun z hz => ?_).bind fun r er => Ok.ret ?_
    · have := (List.of_mem_zip hz).2
      obtain ⟨b, hb, e⟩ := List.mem_map.mp this
      rw [← e]
      exact relF_b L.S.dok us sp (hF b hb) (s3 b hb) s1 s2
    · show r = _
      rw [er]
      show List.foldl _ _ ((solidsV head).zip (((solidsV head).map fun n => b0Of head placing n m).map (relF s (spotV head placing name m)))) = _
      rw [z1, List.foldl_map]; rfl
  · have e2 : r.2 = Tm s u v (spotV head placing name m) ((solidsV head).map fun n => b0Of head placing n m) := by
      rw [er, foldF_best]
      unfold Tm firstT
      rw [List.foldl_map, List.foldl_map]
    have sc : ∀ n ∈ solidsV head, (ent (relF s (spotV head placing name m) (b0Of head placing n m)) u v).map (scP unit) = (tnV head placing unit name m u v n).map (scP s) := fun n hn => by
      have en : tnV head placing unit name m u v n = ent (relF unit (spotV head placing name m) (b0Of head placing n m)) u v := by
        unfold tnV Tm
        rw [L.sol_one hn]
        show better (ent _ u v) none = _
        cases ent (relF unit (spotV head placing name m) (b0Of head placing n m)) u v <;> rfl
      rw [en]
      obtain ⟨fb, db⟩ := L.b0 (sol_mem hn)
      have sb : DvB s (b0Of head placing n m) := s3 _ (List.mem_map.mpr ⟨n, hn, rfl⟩)
      rw [← ent_sc L.U.1, ← ent_sc us.1, relF_sc fb sp db d1 d2 sb s1 s2]
    have e1 : r.1 = (firstsV head placing unit name m u v).1 := by
      rw [er]
      exact foldF_sc L.U.1 us.1 _ ([], none) ([], none) rfl rfl sc
    rw [show m_told_number r.2 _ = _ from by rw [e2]]
    refine Ok.get (told_ok L.S.dok L.U L.w sp hF hV d1 d2 hs s3 s1 s2) (Ok.ret ?_)
    show (r.1, numV unit (Tm unit u v _ _)) = _
    rw [e1]
    congr 2
    unfold Tm firstV
    rw [List.map_map]
    congr 1
    refine List.map_congr_left fun n hn => ?_
    show ent _ u v = tnV head placing unit name m u v n
    unfold tnV Tm
    rw [L.sol_one hn]
    show _ = better (ent _ u v) none
    cases ent (relF unit (spotV head placing name m) (b0Of head placing n m)) u v <;> rfl
theorem Ln.oth_NB (who : Str) : NB (othV head placing unit name m u v who) := firstT_NB fun t ht => by
  obtain ⟨n, hn, rfl⟩ := List.mem_map.mp ht
  exact L.tn_NB (sol_mem (List.mem_filter.mp hn).1)
/-- the firsts of all, and of the others, are told alike -/
theorem Ln.first_oth {who : Str} {q : P2} (hq : 0 < q.2) (e : tnV head placing unit name m u v who = some q) : lessO (firstV head placing unit name m u v) (some q) = lessO (othV head placing unit name m u v who) (some q) := by
  have h1 : ∀ t ∈ (solidsV head).map (tnV head placing unit name m u v), OB t := fun t ht => by
    obtain ⟨n, hn, rfl⟩ := List.mem_map.mp ht
    exact (L.tn_NB (sol_mem hn)).OB
  have h2 : ∀ t ∈ ((solidsV head).filter fun n => !decide (n = who)).map (tnV head placing unit name m u v), OB t := fun t ht => by
    obtain ⟨n, hn, rfl⟩ := List.mem_map.mp ht
    exact (L.tn_NB (sol_mem (List.mem_filter.mp hn).1)).OB
  rw [Bool.eq_iff_iff]
  show lessO (firstT _) _ = true ↔ lessO (firstT _) _ = true
  rw [lessO_first h1 hq, lessO_first h2 hq]
  constructor
  · rintro ⟨p, hp, hl⟩
    obtain ⟨n, hn, en⟩ := List.mem_map.mp hp
    refine ⟨p, List.mem_map.mpr ⟨n, List.mem_filter.mpr ⟨hn, ?_⟩, en⟩, hl⟩
    by_cases hw : n = who
    · subst hw
      rw [e] at en
      cases en
      unfold lessP at hl
      exact absurd hl (by omega)
    · simp [hw]
  · rintro ⟨p, hp, hl⟩
    obtain ⟨n, hn, en⟩ := List.mem_map.mp hp
    exact ⟨p, List.mem_map.mpr ⟨n, (List.mem_filter.mp hn).1, en⟩, hl⟩
omit L in
theorem num_less {t f : P2} (ht : 0 < t.2) (hu : 0 < unit) : lessP (lowV t.1 (t.2 * unit)) f ↔ t.1 * f.2 < f.1 * t.2 * unit := by
  unfold lessP
  rw [low_less_l (Int.mul_pos ht hu), Int.mul_assoc]
omit L in
theorem less_num {t f : P2} (ht : 0 < t.2) (hu : 0 < unit) : lessP f (lowV t.1 (t.2 * unit)) ↔ f.1 * t.2 * unit < t.1 * f.2 := by
  unfold lessP
  rw [low_less_r (Int.mul_pos ht hu), Int.mul_assoc]
omit L in
theorem metL_iff {t : P2} : t ∈ metL head placing unit name m u v ↔ some t ∈ (solidsV head).map (tnV head placing unit name m u v) := by
  unfold metL
  rw [List.mem_filterMap, List.mem_map]
theorem Ln.all_OB : ∀ t ∈ (solidsV head).map (tnV head placing unit name m u v), OB t := fun t ht => by
  obtain ⟨n, hn, rfl⟩ := List.mem_map.mp ht
  exact (L.tn_NB (sol_mem hn)).OB
/-- all are at least f -/
theorem Ln.all_ge {f : P2} (hf : 0 < f.2) : ((metL head placing unit name m u v).all fun t => decide (f.1 * t.2 * unit ≤ t.1 * f.2)) = true ↔ ∀ p, firstV head placing unit name m u v = some p → ¬ lessP (lowV p.1 (p.2 * unit)) f := by
  rw [List.all_eq_true]
  have u1 := L.U.1
  have hp : ∀ t ∈ (solidsV head).map (tnV head placing unit name m u v), ∀ p, t = some p → 0 < p.2 := fun t ht p e => (Ln.all_OB L t ht p e).2
  constructor
  · intro h p e
    obtain ⟨p0, p1, p2⟩ := firstT_some hp e
    have := of_decide_eq_true (h p (metL_iff.mpr p1))
    rw [num_less p0 u1]; omega
  · intro h t ht
    have mt := metL_iff.mp ht
    have t0 := hp _ mt t rfl
    refine decide_eq_true ?_
    cases e : firstV head placing unit name m u v with
    | none => have := firstT_none hp e _ mt; cases this
    | some p =>
      obtain ⟨p0, p1, p2⟩ := firstT_some hp e
      have := h p e
      have k : ¬ lessP (lowV t.1 (t.2 * unit)) f := fun z => this (lessP_trans (lowV_pos (by have := Int.mul_pos p0 u1; omega)) (lowV_pos (by have := Int.mul_pos t0 u1; omega)) hf (fun w => p2 _ mt t rfl ((lessP_num u1 t0 p0).mp w)) z)
      rw [num_less t0 u1] at k; omega
/-- all are beyond f -/
theorem Ln.all_gt {f : P2} (hf : 0 < f.2) : ((metL head placing unit name m u v).all fun t => decide (f.1 * t.2 * unit < t.1 * f.2)) = true ↔ ∀ p, firstV head placing unit name m u v = some p → lessP f (lowV p.1 (p.2 * unit)) := by
  rw [List.all_eq_true]
  have u1 := L.U.1
  have hp : ∀ t ∈ (solidsV head).map (tnV head placing unit name m u v), ∀ p, t = some p → 0 < p.2 := fun t ht p e => (Ln.all_OB L t ht p e).2
  constructor
  · intro h p e
    obtain ⟨p0, p1, p2⟩ := firstT_some hp e
    have := of_decide_eq_true (h p (metL_iff.mpr p1))
    rw [less_num p0 u1]; omega
  · intro h t ht
    have mt := metL_iff.mp ht
    have t0 := hp _ mt t rfl
    refine decide_eq_true ?_
    cases e : firstV head placing unit name m u v with
    | none => have := firstT_none hp e _ mt; cases this
    | some p =>
      obtain ⟨p0, p1, p2⟩ := firstT_some hp e
      have lp := h p e
      have k : lessP f (lowV t.1 (t.2 * unit)) := Decidable.byContradiction fun z => by
        have P := lowV_pos (n := p.1) (d := p.2 * unit) (by have := Int.mul_pos p0 u1; omega)
        have T := lowV_pos (n := t.1) (d := t.2 * unit) (by have := Int.mul_pos t0 u1; omega)
        exact p2 _ mt t rfl ((lessP_num u1 t0 p0).mp (lessP_trans T hf P z lp))
      rw [less_num t0 u1] at k; omega
end
theorem neP_ref {a b : Str} {i j : Int} (ha : sOk a) (hb : sOk b) : ∃ z, U.neP ((uTup (uRC uStr (uR1 uInt))) (a, i)) ((uTup (uRC uStr (uR1 uInt))) (b, j)) = some z := by
  have sh : ∀ (a : Str) (i : Int), sOk a → SeqAt.shaped (PyData.tuple [.str a, .int i]) = true := fun a i h => by
    have h : PyData.strOk a = true := h
    show (((PyData.strOk a) && (true && true)) && _) = true
    rw [h]; rfl
  have e : U.eqP ((uTup (uRC uStr (uR1 uInt))) (a, i)) ((uTup (uRC uStr (uR1 uInt))) (b, j)) = some (PyData.eqv (PyData.tuple [.str a, .int i]) (PyData.tuple [.str b, .int j])) := by
    show (some (PyData.tuple [.str a, .int i]) >>= fun x => some (PyData.tuple [.str b, .int j]) >>= fun y => if SeqAt.shaped x = true ∧ SeqAt.shaped y = true then some (PyData.eqv x y) else none) = _
    rw [obind_some, obind_some, if_pos ⟨sh a i ha, sh b j hb⟩]
  unfold U.neP
  rw [e]
  exact ⟨_, rfl⟩
end Ty

set_option maxHeartbeats 4000000
/-! solid pairs, drawn worlds: the mirrors that laws have in common -/
namespace Ty
open PySem L2
def m_longer (a_head : (Int × Int × Int × (List (Str × Str × Bool)))) (a_moments : Int) : Option (Int × Int × Int × (List (Str × Str × Bool))) :=
 some (a_head.1, a_head.2.1, a_moments, a_head.2.2.2)
def m_is_bar (a_sort : Str) : Option Bool :=
 some (decide (a_sort ∈ (["upright", "lying"] : List Str)))
def m_count_of_moments (a_head : (Int × Int × Int × (List (Str × Str × Bool)))) (a_thing : (Str × Str × Bool)) (a_other : (Str × Str × Bool)) : Option Int :=
 cond (a_thing.2.2 || a_other.2.2) (some a_head.2.2.1) (some (1 : Int))
def m_hindered_by (a_head : (Int × Int × Int × (List (Str × Str × Bool)))) (a_body : Int) : Option (List (Str × Str × Bool)) :=
 forS (enR a_head.2.2.2) ([] : (List (Str × Str × Bool))) (fun x2 (s1 : (List (Str × Str × Bool))) => (m_is_bar x2.2.2.1 >>= fun v4 =>
 cond (v4 || ((decide (x2.2.2.1 = ("body" : Str))) && (decide (a_body < x2.1)))) (pushR s1 x2.2 >>= fun v5 =>
 some v5.2) (some s1)) >>= fun s3 =>
 some s3) >>= fun s1 =>
 some s1
def m_solid_pairs (a_head : (Int × Int × Int × (List (Str × Str × Bool)))) : Option (List ((Str × Int) × (Str × Int))) :=
 forS (enR a_head.2.2.2) ([] : (List ((Str × Int) × (Str × Int)))) (fun x2 (s1 : (List ((Str × Int) × (Str × Int)))) => (cond (decide (x2.2.2.1 = ("body" : Str))) (m_hindered_by a_head x2.1 >>= fun v4 =>
 forS v4 s1 (fun x6 (s5 : (List ((Str × Int) × (Str × Int)))) => m_count_of_moments a_head x2.2 x6 >>= fun v7 =>
 rng1 v7 >>= fun v8 =>
 forS v8 s5 (fun x10 (s9 : (List ((Str × Int) × (Str × Int)))) => pushR s9 ((x2.2.1, x10), (x6.1, x10)) >>= fun v11 =>
 some v11.2) >>= fun s9 =>
 some s9) >>= fun s5 =>
 some s5) (some s1)) >>= fun s3 =>
 some s3) >>= fun s1 =>
 some s1
def m_solidities (a_head : (Int × Int × Int × (List (Str × Str × Bool)))) : Option (List (Str × (Str × (Str × Int) × (Str × Int)))) :=
 m_solid_pairs a_head >>= fun v1 =>
 mapR (fun x2 => some (("not" : Str), (("laps" : Str), x2.1, x2.2))) v1 >>= fun ys3 =>
 some ys3
def m_law_sort (a_world : ((Int × Int × Int × (List (Str × Str × Bool))) × Int × U)) (a_name : Str) : Option Str :=
 fltR (fun x1 => some (decide (x1.1 = a_name))) (fun x1 => some x1.2.1) a_world.1.2.2.2 >>= fun ys2 =>
 atI ys2 (0 : Int) >>= fun v3 =>
 some v3
def m_law_pairs (a_head : (Int × Int × Int × (List (Str × Str × Bool)))) : Option (List ((Str × Int) × (Str × Int))) :=
 forS a_head.2.2.2 ([] : (List ((Str × Int) × (Str × Int)))) (fun x2 (s1 : (List ((Str × Int) × (Str × Int)))) => forS a_head.2.2.2 (s1, false) (fun x4 (s3 : ((List ((Str × Int) × (Str × Int))) × Bool)) => (cond ((decide (x2.2.1 = ("body" : Str))) && ((decide (x4.2.1 ∈ [("upright" : Str), ("lying" : Str)])) || ((decide (x4.2.1 = ("body" : Str))) && s3.2))) (rng1 (cond (x2.2.2 || x4.2.2) a_head.2.2.1 (1 : Int)) >>= fun v6 =>
 forS v6 s3.1 (fun x8 (s7 : (List ((Str × Int) × (Str × Int)))) => pushR s7 ((x2.1, x8), (x4.1, x8)) >>= fun v9 =>
 some v9.2) >>= fun s7 =>
 some s7) (some s3.1)) >>= fun s5 =>
 lt (s3.2 || (decide (x4.1 = x2.1))) fun behind_10 =>
 some (s5, behind_10)) >>= fun s3 =>
 some s3.1) >>= fun s1 =>
 some s1
def m_law_s_head (tp : Tape) (a_sorts : (List Str)) (a_moments : Int) : Option ((Int × Int × Int × (List (Str × Str × Bool))) × Tape) :=
 m_law_names tp (a_sorts.length : Int) >>= fun v1 =>
 rng1 (a_sorts.length : Int) >>= fun v2 =>
 forS v2 ([] : (List (Str × Str × Bool))) (fun x4 (s3 : (List (Str × Str × Bool))) => atI v1.1 x4 >>= fun v5 =>
 atI a_sorts x4 >>= fun v6 =>
 replT v6 ("+" : Str) ("" : Str) >>= fun v7 =>
 atI a_sorts x4 >>= fun v8 =>
 pushR s3 (v5, v7, (PySem.Txt.endswith v8 ("+" : Str))) >>= fun v9 =>
 some v9.2) >>= fun s3 =>
 lt ([(4 : Int), (6 : Int), (6 : Int), (8 : Int), (10 : Int), (12 : Int), (3 : Int), (7 : Int)]) fun sizes_10 =>
 (m_law_draw v1.2 (16 : Int) >>= fun v12 =>
 cond (decide (v12.1 = (0 : Int))) (lt ([(1 : Int), (999 : Int)]) fun sizes_13 =>
 some (sizes_13, v12.2)) (some (sizes_10, v12.2))) >>= fun s11 =>
 m_law_pick s11.2 s11.1 >>= fun v14 =>
 m_law_pick v14.2 s11.1 >>= fun v15 =>
 some ((v14.1, v15.1, a_moments, s3), v15.2)
def m_law_s_firm (tp : Tape) (a_head : (Int × Int × Int × (List (Str × Str × Bool)))) (a_thing : (Str × Str × Bool)) (a_step : (Int × Int)) (a_up : Int) (a_own : (List Int)) : Option ((List (Int × Int × Int × Int)) × Tape) :=
 (cond (decide (a_thing.2.1 = ("upright" : Str))) (some ((0 : Int), tp)) (m_law_draw tp (4 : Int) >>= fun v1 =>
 mulR a_step.1 ((1 : Int) + v1.1) >>= fun v2 =>
 fdivR v2 (4 : Int) >>= fun v3 =>
 some (v3, v1.2))) >>= fun c4 =>
 (cond (decide (a_thing.2.1 = ("lying" : Str))) (some ((0 : Int), c4.2)) (m_law_draw c4.2 (4 : Int) >>= fun v6 =>
 mulR a_step.2 ((1 : Int) + v6.1) >>= fun v7 =>
 fdivR v7 (4 : Int) >>= fun v8 =>
 some (v8, v6.2))) >>= fun c9 =>
 atI a_own (0 : Int) >>= fun v11 =>
 rng1 (cond a_thing.2.2 a_head.2.2.1 (1 : Int)) >>= fun v12 =>
 forS v12 (([] : (List (Int × Int × Int × Int))), v11, (0 : Int), (0 : Int), c9.2) (fun x14 (s13 : ((List (Int × Int × Int × Int)) × Int × Int × Int × Tape)) => (cond (decide (x14 = (0 : Int))) (some ((3 : Int), s13.2.2.2.2)) (m_law_draw s13.2.2.2.2 (4 : Int) >>= fun v15 =>
 some (v15.1, v15.2))) >>= fun c16 =>
 (cond ((decide (c16.1 = (3 : Int))) && (decide ((0 : Int) < x14))) (m_law_draw c16.2 (2 : Int) >>= fun v19 =>
 atI a_own v19.1 >>= fun v20 =>
 some (v20, v19.2)) (some (s13.2.1, c16.2))) >>= fun s18 =>
 (cond (decide (c16.1 ∈ [(1 : Int), (3 : Int)])) (fdivR s18.1 a_up >>= fun v22 =>
 mulR v22 a_step.1 >>= fun v23 =>
 m_law_draw s18.2 (3 : Int) >>= fun v24 =>
 mulR (a_step.1 - c4.1) v24.1 >>= fun v25 =>
 fdivR v25 (2 : Int) >>= fun v26 =>
 lt (v23 + v26) fun x_27 =>
 some (x_27, v24.2)) (some (s13.2.2.1, s18.2))) >>= fun s21 =>
 (cond (decide (c16.1 ∈ [(2 : Int), (3 : Int)])) (fmodR s18.1 a_up >>= fun v29 =>
 mulR v29 a_step.2 >>= fun v30 =>
 m_law_draw s21.2 (3 : Int) >>= fun v31 =>
 mulR (a_step.2 - c9.1) v31.1 >>= fun v32 =>
 fdivR v32 (2 : Int) >>= fun v33 =>
 lt (v30 + v33) fun y_34 =>
 some (y_34, v31.2)) (some (s13.2.2.2.1, s21.2))) >>= fun s28 =>
 pushR s13.1 (s21.1, s28.1, (s21.1 + c4.1), (s28.1 + c9.1)) >>= fun v35 =>
 some (v35.2, s18.1, s21.1, s28.1, s28.2)) >>= fun s13 =>
 some (s13.1, s13.2.2.2.2)
def m_law_s_stretch (tp : Tape) (a_cuts : (List Int)) : Option ((Int × Int) × Tape) :=
 m_law_draw tp ((a_cuts.length : Int) - (1 : Int)) >>= fun v1 =>
 atI a_cuts v1.1 >>= fun v2 =>
 m_law_draw v1.2 (((a_cuts.length : Int) - (1 : Int)) - v1.1) >>= fun v3 =>
 atI a_cuts ((v1.1 + (1 : Int)) + v3.1) >>= fun v4 =>
 some ((v2, v4), v3.2)
def m_law_s_loose (tp : Tape) (a_head : (Int × Int × Int × (List (Str × Str × Bool)))) (a_thing : (Str × Str × Bool)) (a_cuts : ((List Int) × (List Int))) : Option ((List (Int × Int × Int × Int)) × Tape) :=
 lt (cond a_thing.2.2 a_head.2.2.1 (1 : Int)) fun many_1 =>
 (cond (decide (a_thing.2.1 = ("land" : Str))) (m_law_draw tp (3 : Int) >>= fun v3 =>
 lt ((1 : Int) + v3.1) fun many_4 =>
 some (many_4, v3.2)) (some (many_1, tp))) >>= fun s2 =>
 lt ((0 : Int), (0 : Int)) fun one_5 =>
 lt ((0 : Int), (0 : Int)) fun two_6 =>
 rng1 s2.1 >>= fun v7 =>
 forS v7 (([] : (List (Int × Int × Int × Int))), one_5, two_6, (0 : Int), (0 : Int), s2.2) (fun x9 (s8 : ((List (Int × Int × Int × Int)) × (Int × Int) × (Int × Int) × Int × Int × Tape)) => (cond ((!decide (a_thing.2.1 = ("spot" : Str))) && ((decide (x9 = (0 : Int))) || (decide (a_thing.2.1 = ("land" : Str))))) (m_law_s_stretch s8.2.2.2.2.2 a_cuts.1 >>= fun v11 =>
 m_law_s_stretch v11.2 a_cuts.2 >>= fun v12 =>
 some (v11.1, v12.1, v11.1.1, v12.1.1, v12.2)) (((cond (decide (x9 = (0 : Int))) (some (true, s8.2.2.2.2.2)) (m_law_draw s8.2.2.2.2.2 (3 : Int) >>= fun v14 =>
 some ((decide ((0 : Int) < v14.1)), v14.2))) >>= fun c15 =>
 cond c15.1 (m_law_pick c15.2 a_cuts.1 >>= fun v17 =>
 mulR (192 : Int) a_head.1 >>= fun v18 =>
 lt (minI v17.1 ((v18 - s8.2.1.2) + s8.2.1.1)) fun x_19 =>
 m_law_pick v17.2 a_cuts.2 >>= fun v20 =>
 mulR (192 : Int) a_head.2.1 >>= fun v21 =>
 lt (minI v20.1 ((v21 - s8.2.2.1.2) + s8.2.2.1.1)) fun y_22 =>
 some (x_19, y_22, v20.2)) (some (s8.2.2.2.1, s8.2.2.2.2.1, c15.2))) >>= fun s13 =>
 some (s8.2.1, s8.2.2.1, s13.1, s13.2.1, s13.2.2))) >>= fun s10 =>
 pushR s8.1 (s10.2.2.1, s10.2.2.2.1, ((s10.2.2.1 + s10.1.2) - s10.1.1), ((s10.2.2.2.1 + s10.2.1.2) - s10.2.1.1)) >>= fun v23 =>
 some (v23.2, s10.1, s10.2.1, s10.2.2.1, s10.2.2.2.1, s10.2.2.2.2)) >>= fun s8 =>
 some (s8.1, s8.2.2.2.2.2)
def m_law_s_world (tp : Tape) (a_head : (Int × Int × Int × (List (Str × Str × Bool)))) : Option (((Int × Int × Int × (List (Str × Str × Bool))) × Int × (List (List (Int × Int × Int × Int)))) × Tape) :=
 fltR (fun x1 => some (decide (x1.2.1 ∈ [("body" : Str), ("upright" : Str), ("lying" : Str)]))) (fun x1 => some x1.1) a_head.2.2.2 >>= fun ys2 =>
 m_law_pick tp ([((2 : Int), (1 : Int)), ((1 : Int), (2 : Int)), ((2 : Int), (2 : Int)), ((3 : Int), (2 : Int))]) >>= fun v3 =>
 (mulR v3.1.1 v3.1.2 >>= fun v5 =>
 cond (decide (v5 < (ys2.length : Int))) (m_law_pick v3.2 ([((3 : Int), (2 : Int)), ((2 : Int), (3 : Int))]) >>= fun v6 =>
 some (v6.1.1, v6.1.2, v6.2)) (some (v3.1.1, v3.1.2, v3.2))) >>= fun s4 =>
 mulR s4.1 s4.2.1 >>= fun v7 =>
 rng1 v7 >>= fun v8 =>
 m_law_shuffled s4.2.2 v8 >>= fun v9 =>
 mulR (192 : Int) a_head.1 >>= fun v10 =>
 fdivR v10 s4.1 >>= fun v11 =>
 mulR (192 : Int) a_head.2.1 >>= fun v12 =>
 fdivR v12 s4.2.1 >>= fun v13 =>
 lt (v11, v13) fun step_14 =>
 mulR (96 : Int) a_head.1 >>= fun v15 =>
 mulR (192 : Int) a_head.1 >>= fun v16 =>
 mulR (12 : Int) a_head.1 >>= fun v17 =>
 m_law_draw v9.2 (17 : Int) >>= fun v18 =>
 mulR v17 v18.1 >>= fun v19 =>
 lt ([(0 : Int), v15, v16, v19]) fun xs_20 =>
 mulR (96 : Int) a_head.2.1 >>= fun v21 =>
 mulR (192 : Int) a_head.2.1 >>= fun v22 =>
 mulR (12 : Int) a_head.2.1 >>= fun v23 =>
 m_law_draw v18.2 (17 : Int) >>= fun v24 =>
 mulR v23 v24.1 >>= fun v25 =>
 lt ([(0 : Int), v21, v22, v25]) fun ys_26 =>
 mapR (fun x27 => some ([] : (List (Int × Int × Int × Int)))) a_head.2.2.2 >>= fun ys28 =>
 rng1 (a_head.2.2.2.length : Int) >>= fun v29 =>
 forS v29 (xs_20, ys_26, ys28, v24.2) (fun x31 (s30 : ((List Int) × (List Int) × (List (List (Int × Int × Int × Int))) × Tape)) => (atI a_head.2.2.2 x31 >>= fun v33 =>
 cond (decide (v33.1 ∈ ys2)) (atI a_head.2.2.2 x31 >>= fun v34 =>
 idxR ys2 v34.1 >>= fun v35 =>
 (cond (decide ((v35 + (ys2.length : Int)) < (v9.1.length : Int))) (atI v9.1 (v35 + (ys2.length : Int)) >>= fun v36 =>
 some v36) (atI v9.1 v35 >>= fun v37 =>
 some v37)) >>= fun c38 =>
 atI a_head.2.2.2 x31 >>= fun v39 =>
 atI v9.1 v35 >>= fun v40 =>
 m_law_s_firm s30.2.2.2 a_head v39 step_14 s4.2.1 ([v40, c38]) >>= fun v41 =>
 setR s30.2.2.1 x31 v41.1 >>= fun v42 =>
 atI v42 x31 >>= fun v43 =>
 forS v43 (s30.1, s30.2.1) (fun x45 (s44 : ((List Int) × (List Int))) => catR s44.1 ([x45.1, x45.2.2.1]) >>= fun v46 =>
 catR s44.2 ([x45.2.1, x45.2.2.2]) >>= fun v47 =>
 some (v46, v47)) >>= fun s44 =>
 some (s44.1, s44.2, v42, v41.2)) (some (s30.1, s30.2.1, s30.2.2.1, s30.2.2.2))) >>= fun s32 =>
 some (s32.1, s32.2.1, s32.2.2.1, s32.2.2.2)) >>= fun s30 =>
 rng1 (a_head.2.2.2.length : Int) >>= fun v48 =>
 forS v48 (s30.2.2.1, s30.2.2.2) (fun x50 (s49 : ((List (List (Int × Int × Int × Int))) × Tape)) => (atI a_head.2.2.2 x50 >>= fun v52 =>
 cond (!decide (v52.1 ∈ ys2)) (atI a_head.2.2.2 x50 >>= fun v53 =>
 setR' s30.1 >>= fun v54 =>
 setR' s30.2.1 >>= fun v55 =>
 m_law_s_loose s49.2 a_head v53 (v54, v55) >>= fun v56 =>
 setR s49.1 x50 v56.1 >>= fun v57 =>
 some (v57, v56.2)) (some (s49.1, s49.2))) >>= fun s51 =>
 some (s51.1, s51.2)) >>= fun s49 =>
 some ((a_head, (192 : Int), s49.1), s49.2)
def m_law_s_placing (a_world : ((Int × Int × Int × (List (Str × Str × Bool))) × Int × (List (List (Int × Int × Int × Int))))) : Option (List (List ((Int × Int) × (Int × Int) × (Int × Int) × (Int × Int)))) :=
 mapR (fun x1 => mapR (fun x2 => mapR (fun x3 => m_law_low x3 a_world.2.1 >>= fun v4 =>
 some v4) ([x2.1, x2.2.1, x2.2.2.1, x2.2.2.2]) >>= fun ys5 =>
 some ys5) x1 >>= fun ys6 =>
 some ys6) a_world.2.2 >>= fun ys7 =>
 (dSeq (dSeq (dTup (dRC (dTup (dRC dInt (dR1 dInt))) (dRC (dTup (dRC dInt (dR1 dInt))) (dRC (dTup (dRC dInt (dR1 dInt))) (dR1 (dTup (dRC dInt (dR1 dInt)))))))))) ((uSeq (uSeq (uSeq (uTup (uRC uInt (uR1 uInt)))))) ys7) >>= fun v8 =>
 some v8
def m_law_s_other (tp : Tape) (a_world : ((Int × Int × Int × (List (Str × Str × Bool))) × Int × (List (List (Int × Int × Int × Int))))) : Option (((Int × Int × Int × (List (Str × Str × Bool))) × Int × (List (List (Int × Int × Int × Int)))) × Tape) :=
 m_law_s_world tp a_world.1 >>= fun v1 =>
 m_law_draw v1.2 (v1.1.2.2.length : Int) >>= fun v2 =>
 rng1 (v1.1.2.2.length : Int) >>= fun v3 =>
 mapR (fun x4 => (cond (decide (x4 = v2.1)) (atI v1.1.2.2 x4 >>= fun v5 =>
 some v5) (atI a_world.2.2 x4 >>= fun v6 =>
 some v6)) >>= fun c7 =>
 some c7) v3 >>= fun ys8 =>
 lt (a_world.1, (192 : Int), ys8) fun mixed_9 =>
 m_law_pairs a_world.1 >>= fun v10 =>
 (forF v10 () (fun x12 (s11 : Unit) => m_law_place mixed_9 x12.1 >>= fun v13 =>
 m_law_place mixed_9 x12.2 >>= fun v14 =>
 m_law_lap v13 v14 >>= fun v15 =>
 cond v15 (some (.rt (v1.1, v2.2))) (some (.nx ()))) : Option (Fl Unit (((Int × Int × Int × (List (Str × Str × Bool))) × Int × (List (List (Int × Int × Int × Int)))) × Tape))) >>= (fun o => match o with
 | .nx s11 => m_law_draw v2.2 (3 : Int) >>= fun v16 =>
 some ((cond (decide ((0 : Int) < v16.1)) mixed_9 v1.1), v16.2)
 | .rt x => some x
 | .bk _ => none
 | .ct _ => none)
end Ty

set_option maxHeartbeats 4000000
/-! solid pairs, drawn worlds: plain Lean -/
namespace Ty
open PySem L2
/-! ### rows put together -/
theorem forS_cat {α β : Type} {f : α → List β → Option (List β)} (g : α → List β) (k : Nat) : ∀ (xs : List α) (s : List β), s.length + k * xs.length ≤ 1000000 → (∀ x ∈ xs, (g x).length ≤ k) → (∀ x ∈ xs, ∀ s : List β, s.length + k ≤ 1000000 → f x s = some (s ++ g x)) → forS xs s f = some (s ++ xs.flatMap g)
  | [], s, _, _, _ => by simp [forS]
  | x :: xs, s, hl, hk, h => by
    have hl : s.length + k * (xs.length + 1) ≤ 1000000 := hl
    rw [Nat.mul_succ] at hl
    have hx := hk x (List.mem_cons_self ..)
    show (f x s >>= fun s' => forS xs s' f) = _
    rw [h x (List.mem_cons_self ..) s (by omega), obind_some, forS_cat g k xs (s ++ g x) (by rw [List.length_append]; omega) (fun y hy => hk y (List.mem_cons_of_mem _ hy)) fun y hy => h y (List.mem_cons_of_mem _ hy)]
    simp
abbrev Rf := Str × Int
/-- the pairs of two things -/
def prs (mo : Int) (p q : Thg) : List (Rf × Rf) := (rangeI 0 (cond (p.2.2 || q.2.2) mo 1)).map fun m => ((p.1, m), (q.1, m))
def hits (b : Int) (p : Thg) (j : Int × Thg) : Bool := decide (p.2.1 = ("body" : Str)) && (decide (j.2.2.1 ∈ (["upright", "lying"] : List Str)) || (decide (j.2.2.1 = ("body" : Str)) && decide (b < j.1)))
def prow (head : Hd) (b : Int) (p : Thg) : List (Rf × Rf) := ((enR head.2.2.2).filter (hits b p)).flatMap fun j => prs head.2.2.1 p j.2
def pairsV (head : Hd) : List (Rf × Rf) := (enR head.2.2.2).flatMap fun i => prow head i.1 i.2
/-- a head whose pairs are told -/
structure HdQ (h : Hd) : Prop where
  mo : 1 ≤ h.2.2.1 ∧ h.2.2.1 ≤ 20
  nd : (h.2.2.2.map (·.1)).Nodup
  few : h.2.2.2.length ≤ 20
theorem prs_len {mo : Int} {p q : Thg} (h : 1 ≤ mo ∧ mo ≤ 20) : (prs mo p q).length ≤ 20 := by
  unfold prs
  rw [List.length_map, len_rangeI]
  cases (p.2.2 || q.2.2) <;> (simp only [cond_true, cond_false]; omega)
theorem prs_rng {mo : Int} {p q : Thg} (h : 1 ≤ mo ∧ mo ≤ 20) : rng1 (cond (p.2.2 || q.2.2) mo 1) = some (rangeI 0 (cond (p.2.2 || q.2.2) mo 1)) := if_pos (by unfold CRng; cases (p.2.2 || q.2.2) <;> (simp only [cond_true, cond_false]; omega))
theorem flatMap_le {α β : Type} {g : α → List β} {k : Nat} : ∀ xs : List α, (∀ x ∈ xs, (g x).length ≤ k) → (xs.flatMap g).length ≤ k * xs.length
  | [], _ => by simp
  | x :: xs, h => by
    have := flatMap_le xs fun y hy => h y (List.mem_cons_of_mem _ hy)
    have := h x (List.mem_cons_self ..)
    rw [List.flatMap_cons, List.length_append, List.length_cons, Nat.mul_succ]; omega
theorem prow_len {head : Hd} (H : HdQ head) (b : Int) (p : Thg) : (prow head b p).length ≤ 400 := by
  unfold prow
  refine Nat.le_trans (flatMap_le (k := 20) _ fun x _ => prs_len H.mo) ?_
  have a := List.length_filter_le (hits b p) (enR head.2.2.2)
  rw [enR_len] at a
  have := H.few
  omega
theorem push_prs {mo : Int} {p q : Thg} (h : 1 ≤ mo ∧ mo ≤ 20) {s : List (Rf × Rf)} (hs : s.length + 20 ≤ 1000000) : forS (rangeI 0 (cond (p.2.2 || q.2.2) mo 1)) s (fun x10 s9 => pushR s9 ((p.1, x10), (q.1, x10)) >>= fun v11 => some v11.2) = some (s ++ prs mo p q) := by
  refine forS_push (fun m => ((p.1, m), (q.1, m))) _ s ?_ fun x s _ hs => by rw [pushR_eq hs]; rfl
  have := prs_len (p := p) (q := q) h
  unfold prs at this
  rw [List.length_map] at this
  omega
theorem filter_flatMap {α β : Type} (t : α → Bool) (g : α → List β) : ∀ xs : List α, (xs.filter t).flatMap g = xs.flatMap fun x => cond (t x) (g x) []
  | [] => rfl
  | x :: xs => by
    rw [List.flatMap_cons, List.filter_cons]
    cases h : t x with
    | true => rw [if_pos rfl, List.flatMap_cons, filter_flatMap t g xs]; rfl
    | false => rw [if_neg (by decide), filter_flatMap t g xs]; rfl
theorem flatMap_one {α β : Type} (f : α → β) : ∀ xs : List α, xs.flatMap (fun x => [f x]) = xs.map f
  | [] => rfl
  | x :: xs => by rw [List.flatMap_cons, flatMap_one f xs]; rfl
/-- the program's -/
theorem hindered_eq {head : Hd} (H : HdQ head) (b : Int) : m_hindered_by head b = some (((enR head.2.2.2).filter fun j => decide (j.2.2.1 ∈ (["upright", "lying"] : List Str)) || (decide (j.2.2.1 = ("body" : Str)) && decide (b < j.1))).map (·.2)) := by
  unfold m_hindered_by
  have few := H.few
  refine Ok.eq (Ok.get (forS_cat (fun j : Int × Thg => cond (decide (j.2.2.1 ∈ (["upright", "lying"] : List Str)) || (decide (j.2.2.1 = ("body" : Str)) && decide (b < j.1))) [j.2] []) 1 _ [] (by rw [enR_len]; show 0 + _ ≤ _; omega) (fun x _ => ?_) fun x _ s hs => ?_) (Ok.ret ?_))
  · cases (decide (x.2.2.1 ∈ (["upright", "lying"] : List Str)) || (decide (x.2.2.1 = ("body" : Str)) && decide (b < x.1))) <;> simp
  · show ((m_is_bar x.2.2.1 >>= fun v4 => cond (v4 || (decide (x.2.2.1 = ("body" : Str)) && decide (b < x.1))) (pushR s x.2 >>= fun v5 => some v5.2) (some s)) >>= fun s3 => some s3) = _
    unfold m_is_bar
    rw [obind_some, pushR_eq (by omega)]
    cases (decide (x.2.2.1 ∈ (["upright", "lying"] : List Str)) || (decide (x.2.2.1 = ("body" : Str)) && decide (b < x.1))) with
    | true => rfl
    | false => simp
  · rw [List.nil_append, ← filter_flatMap, flatMap_one]
theorem solid_pairs_eq {head : Hd} (H : HdQ head) : m_solid_pairs head = some (pairsV head) := by
  unfold m_solid_pairs
  have few := H.few
  refine Ok.eq (Ok.get (forS_cat (fun i => prow head i.1 i.2) 400 _ [] (by rw [enR_len]; show 0 + _ ≤ _; omega) (fun x _ => prow_len H _ _) fun i _ s hs => ?_) (Ok.ret rfl))
  show ((cond (decide (i.2.2.1 = ("body" : Str))) _ (some s)) >>= fun s3 => some s3) = _
  unfold prow hits
  cases hb : decide (i.2.2.1 = ("body" : Str)) with
  | false =>
    rw [cond_false, obind_some]
    have : (enR head.2.2.2).filter (fun j => false && (decide (j.2.2.1 ∈ (["upright", "lying"] : List Str)) || (decide (j.2.2.1 = ("body" : Str)) && decide (i.1 < j.1)))) = [] := List.filter_eq_nil_iff.mpr fun _ _ => by simp
    rw [this]; simp
  | true =>
    rw [cond_true]
    refine Ok.eq (Ok.get (Ok.eq (Ok.get (hindered_eq H i.1) (Ok.get (forS_cat (fun q => prs head.2.2.1 i.2 q) 20 _ s ?_ (fun q _ => prs_len H.mo) fun q _ s hs => ?_) (Ok.ret rfl)))) (Ok.ret ?_))
    · rw [List.length_map]
      have a := List.length_filter_le (fun j : Int × Thg => decide (j.2.2.1 ∈ (["upright", "lying"] : List Str)) || (decide (j.2.2.1 = ("body" : Str)) && decide (i.1 < j.1))) (enR head.2.2.2)
      rw [enR_len] at a
      omega
    · have ec : m_count_of_moments head i.2 q = some (cond (i.2.2.2 || q.2.2) head.2.2.1 1) := by
        unfold m_count_of_moments
        cases (i.2.2.2 || q.2.2) <;> rfl
      refine Ok.eq (Ok.get ec (Ok.get (prs_rng H.mo) (Ok.get (push_prs H.mo hs) (Ok.ret rfl))))
    · simp only [Bool.true_and, List.flatMap_map]
/-- the law's -/
theorem law_pairs_eq {head : Hd} (H : HdQ head) : m_law_pairs head = some (pairsV head) := by
  unfold m_law_pairs
  have few := H.few
  refine Ok.eq ?_
  have emap : head.2.2.2 = (enR head.2.2.2).map (·.2) := by
    refine List.ext_getElem? fun i => ?_
    rw [List.getElem?_map]
    cases h : head.2.2.2[i]? with
    | none =>
      have : (enR head.2.2.2)[i]? = none := List.getElem?_eq_none_iff.mpr (by rw [enR_len]; exact List.getElem?_eq_none_iff.mp h)
      rw [this]; rfl
    | some t => rw [enR_get h]; rfl
  refine Ok.bind (P := fun s => s = pairsV head) ?_ fun s e => Ok.ret e
  refine (ok_forI (fun i (s : List (Rf × Rf)) => i ≤ head.2.2.2.length ∧ s = ((enR head.2.2.2).take i).flatMap fun i => prow head i.1 i.2) head.2.2.2 0 [] ⟨Nat.zero_le _, rfl⟩ fun b p s hb hI => ?_).imp fun s hs => ?_
  · rw [Nat.zero_add] at hI
    obtain ⟨_, hs⟩ := hI
    have hbl : b < head.2.2.2.length := (List.getElem?_eq_some_iff.mp hb).1
    have sl : s.length ≤ 400 * b := by
      rw [hs]
      refine Nat.le_trans (flatMap_le (k := 400) _ fun x _ => prow_len H _ _) ?_
      rw [List.length_take]; omega
    refine Ok.bind (P := fun r => r.1 = s ++ prow head (b : Int) p) ?_ fun r er => Ok.ret ⟨by omega, ?_⟩
    · refine (ok_forI (fun j (r : List (Rf × Rf) × Bool) => j ≤ head.2.2.2.length ∧ r.1 = s ++ (((enR head.2.2.2).take j).filter (hits (b : Int) p)).flatMap (fun j => prs head.2.2.1 p j.2) ∧ r.2 = decide (b < j)) head.2.2.2 0 (s, false) ⟨Nat.zero_le _, by simp, rfl⟩ fun j q r hj hI => ?_).imp fun r hr => ?_
      · rw [Nat.zero_add] at hI
        obtain ⟨_, r1, r2⟩ := hI
        have hjl : j < head.2.2.2.length := (List.getElem?_eq_some_iff.mp hj).1
        have rl : r.1.length ≤ 400 * b + 400 := by
          rw [r1, List.length_append]
          have a1 := flatMap_le (g := fun j : Int × Thg => prs head.2.2.1 p j.2) (k := 20) (((enR head.2.2.2).take j).filter (hits (b : Int) p)) fun x _ => prs_len H.mo
          have a2 := List.length_filter_le (hits (b : Int) p) ((enR head.2.2.2).take j)
          have a3 : ((enR head.2.2.2).take j).length ≤ j := by rw [List.length_take]; omega
          omega
        have ej := enR_get hj
        have hd : (decide (p.2.1 = ("body" : Str)) && (decide (q.2.1 ∈ [("upright" : Str), ("lying" : Str)]) || (decide (q.2.1 = ("body" : Str)) && r.2))) = hits (b : Int) p ((j : Int), q) := by
          unfold hits
          rw [r2, show decide (b < j) = decide ((b : Int) < (j : Int)) from decide_eq_decide.mpr (by omega)]
        have nm : decide (q.1 = p.1) = decide (j = b) := by
          refine decide_eq_decide.mpr ⟨fun e => ?_, fun e => by subst e; rw [hb] at hj; cases hj; rfl⟩
          have g1 : (head.2.2.2.map (·.1))[j]? = some q.1 := by rw [List.getElem?_map, hj]; rfl
          have g2 : (head.2.2.2.map (·.1))[b]? = some q.1 := by rw [List.getElem?_map, hb, e]; rfl
          have i1 := idx_of H.nd g1
          have i2 := idx_of H.nd g2
          rw [i1] at i2
          have := Option.some.inj i2
          omega
        rw [Nat.zero_add]
        refine Ok.bind (P := fun x => x = r.1 ++ cond (hits (b : Int) p ((j : Int), q)) (prs head.2.2.1 p q) []) ?_ fun x ex => Ok.lt (Ok.ret ⟨by omega, ?_, ?_⟩)
        · rw [hd]
          cases hits (b : Int) p ((j : Int), q) with
          | false => exact Ok.ret (by simp)
          | true => exact Ok.get (prs_rng H.mo) (Ok.get (push_prs H.mo (by omega)) (Ok.ret rfl))
        · show x = _
          rw [ex, r1, List.take_add_one, ej, List.filter_append, List.flatMap_append, List.append_assoc]
          congr 2
          rw [filter_flatMap]
          simp
        · show (r.2 || decide (q.1 = p.1)) = _
          rw [r2, nm, Bool.eq_iff_iff, Bool.or_eq_true, decide_eq_true_eq, decide_eq_true_eq, decide_eq_true_eq]
          omega
      · rw [Nat.zero_add] at hr
        rw [hr.2.1]
        unfold prow
        rw [List.take_of_length_le (by rw [enR_len]; omega)]
    · rw [Nat.zero_add]
      show r.1 = _
      rw [er, List.take_add_one, enR_get hb, List.flatMap_append, hs]
      simp
  · rw [Nat.zero_add] at hs
    rw [hs.2, List.take_of_length_le (by rw [enR_len]; omega)]
    rfl
end Ty

set_option maxHeartbeats 4000000
/-! drawn heads and worlds of things that stand on cells: plain Lean -/
namespace Ty
open PySem L2
theorem rangeI_get {n : Int} {j : Nat} {x : Int} (h : (rangeI 0 n)[j]? = some x) : x = (j : Int) ∧ (j : Int) < n := by
  have hl : j < (n - 0).toNat := by
    have := (List.getElem?_eq_some_iff.mp h).1
    rw [len_rangeI] at this; exact this
  unfold rangeI at h
  rw [List.getElem?_map] at h
  have e : (List.range (n - 0).toNat)[j]? = some j := List.getElem?_range hl
  rw [e] at h
  have : (0 : Int) + (j : Int) = x := Option.some.inj h
  omega
theorem ok_mulN {x y A B : Int} {P : Int → Prop} (hx : 0 ≤ x ∧ x ≤ A) (hy : 0 ≤ y ∧ y ≤ B) (hA : A ≤ 2 ^ 200) (hB : B ≤ 2 ^ 200) (p : ∀ z, z = x * y → 0 ≤ z → z ≤ A * B → P z) : Ok (mulR x y) P :=
  ⟨_, mulR_s (by omega) (by omega), p _ rfl (Int.mul_nonneg hx.1 hy.1) (Int.mul_le_mul hx.2 hy.2 hy.1 (by omega))⟩
theorem ok_divN {x y : Int} {P : Int → Prop} (hx : 0 ≤ x) (hy : 1 ≤ y ∧ y ≤ 2 ^ 200) (p : ∀ z, z = x.fdiv y → 0 ≤ z → z ≤ x → z * y ≤ x → P z) : Ok (fdivR x y) P := by
  refine ⟨_, fdivR_s (by omega) (by omega), p _ rfl (Int.fdiv_nonneg hx (by omega)) ?_ ?_⟩
  · rw [Int.fdiv_eq_ediv_of_nonneg _ (by omega)]; exact Int.ediv_le_self _ hx
  · rw [Int.fdiv_eq_ediv_of_nonneg _ (by omega)]; exact Int.ediv_mul_le _ (by omega)
/-- a walk that may end with a value -/
theorem ok_forFR {α S ρ : Type} (I : S → Prop) (R : ρ → Prop) {f : α → S → Option (Fl S ρ)} : ∀ (xs : List α) (s : S), I s → (∀ x s, x ∈ xs → I s → Ok (f x s) (fun o => (∃ s', o = .nx s' ∧ I s') ∨ ∃ r, o = .rt r ∧ R r)) → Ok (forF xs s f) (fun o => (∃ s', o = .nx s' ∧ I s') ∨ ∃ r, o = .rt r ∧ R r)
  | [], s, h, _ => ⟨_, rfl, .inl ⟨s, rfl, h⟩⟩
  | x :: xs, s, h, hf => by
    obtain ⟨o, e, q⟩ := hf x s (List.mem_cons_self ..) h
    rw [forF, e]
    rcases q with ⟨s', rfl, h'⟩ | ⟨r, rfl, hr⟩
    · exact ok_forFR I R xs s' h' fun y t hy ht => hf y t (List.mem_cons_of_mem _ hy) ht
    · exact ⟨_, rfl, .inr ⟨r, rfl, hr⟩⟩
theorem enR_mem {α : Type} {xs : List α} {i : Int × α} (h : i ∈ enR xs) : i.2 ∈ xs := by
  unfold enR at h
  obtain ⟨p, hp, rfl⟩ := List.mem_map.mp h
  exact (List.of_mem_zip hp).2
/-! ### heads -/
def menuM : List Str := ["body", "body+", "upright", "lying", "area", "area+", "spot", "spot+", "land"]
def kindsM : List (Str × Bool) := [("body", false), ("body", true), ("upright", false), ("lying", false), ("area", false), ("area", true), ("spot", false), ("spot", true), ("land", false)]
structure HdS (h : Hd) : Prop where
  a : 1 ≤ h.1 ∧ h.1 ≤ 999
  b : 1 ≤ h.2.1 ∧ h.2.1 ≤ 999
  mo : 1 ≤ h.2.2.1 ∧ h.2.2.1 ≤ 3
  nd : (h.2.2.2.map (·.1)).Nodup
  few : 1 ≤ h.2.2.2.length ∧ h.2.2.2.length ≤ 6
  sk : ∀ y ∈ h.2.2.2.map (·.1), sOk y
  so : ∀ t ∈ h.2.2.2, t.2 ∈ kindsM
theorem kinds_land {t : Thg} (h : t.2 ∈ kindsM) (m : t.2.2 = true) : t.2.1 ≠ "land" := by
  obtain ⟨n, s, b⟩ := t
  have m : b = true := m
  subst m
  have h : (s, true) ∈ kindsM := h
  show s ≠ "land"
  intro e
  subst e
  revert h
  decide
theorem bare_ok : ∀ s ∈ menuM, ∃ z, replT s ("+" : Str) ("" : Str) = some z ∧ (z, PySem.Txt.endswith s ("+" : Str)) ∈ kindsM := by
  intro s hs
  unfold menuM at hs
  simp only [List.mem_cons, List.not_mem_nil, or_false] at hs
  rcases hs with rfl | rfl | rfl | rfl | rfl | rfl | rfl | rfl | rfl <;> exact ⟨_, rfl, by decide +kernel⟩
theorem ok_s_head {n : Nat} {t : Tape} {sorts : List Str} {mo : Int} (g : Good n t) (hn : n < 800000000) (hs : ∀ s ∈ sorts, s ∈ menuM) (hl : 1 ≤ sorts.length ∧ sorts.length ≤ 6) (hm : 1 ≤ mo ∧ mo ≤ 3) :
    Ok (m_law_s_head t sorts mo) fun x => HdS x.1 ∧ x.1.2.2.1 = mo ∧ x.1.2.2.2.length = sorts.length ∧ Good (n + 200) x.2 := by
  unfold m_law_s_head
  refine (ok_names g (by omega) (by omega)).bind fun v1 ⟨⟨n1, n2, n3⟩, g1⟩ => ?_
  refine (ok_rng1 (P := fun r => r = rangeI 0 (sorts.length : Int)) (by unfold CRng; omega) rfl).bind fun v3 e3 => ?_
  subst e3
  refine (ok_forI (fun i (s : List Thg) => i ≤ sorts.length ∧ s.length = i ∧ s.map (·.1) = v1.1.take i ∧ (∀ t ∈ s, t.2 ∈ kindsM)) (rangeI 0 (sorts.length : Int)) 0 [] ⟨Nat.zero_le _, rfl, rfl, fun _ h => (nomatch h)⟩ fun j x s hj hI => ?_).bind fun s hI => Ok.lt ?_
  · rw [Nat.zero_add] at hI
    obtain ⟨i1, i2, i3, i5⟩ := hI
    obtain ⟨rfl, hjl⟩ := rangeI_get hj
    have hjl : j < sorts.length := by omega
    have gn : v1.1[j]? = some (v1.1[j]'(by omega)) := List.getElem?_eq_getElem (by omega)
    have gs : sorts[j]? = some (sorts[j]) := List.getElem?_eq_getElem hjl
    obtain ⟨z, hz, hk⟩ := bare_ok _ (hs _ (List.getElem_mem hjl))
    refine Ok.get (atI_nat gn) (Ok.get (atI_nat gs) (Ok.get hz (Ok.get (atI_nat gs) (Ok.get (pushR_eq (by omega)) (Ok.ret ?_)))))
    rw [Nat.zero_add]
    refine ⟨by omega, ?_, ?_, fun t ht => ?_⟩
    · show (s ++ [_]).length = _; simp [i2]
    · show (s ++ [_]).map _ = _
      rw [List.map_append, i3, List.take_add_one, gn]; rfl
    · rcases List.mem_append.mp ht with h | h
      · exact i5 t h
      · rw [List.mem_singleton.mp h]; exact hk
  · rw [len_rangeI, Nat.zero_add] at hI
    obtain ⟨i1, i2, i3, i5⟩ := hI
    have es : ((sorts.length : Int) - 0).toNat = sorts.length := by omega
    rw [es] at i2 i3
    refine Ok.bind (P := fun c => (c.1.length ≤ 8 ∧ 0 < c.1.length ∧ ∀ z ∈ c.1, (1 : Int) ≤ z ∧ z ≤ 999) ∧ Good (n + 122) c.2) ?_ fun s11 ⟨⟨q1, q2, q3⟩, g11⟩ => ?_
    · refine (ok_draw g1 (by omega) (by decide)).bind fun v12 ⟨_, _, g12⟩ => Ok.cond (fun _ => Ok.lt (Ok.ret ⟨⟨by show 2 ≤ 8; decide, by show 0 < 2; decide, ?_⟩, g12.mono (by omega)⟩)) (fun _ => Ok.ret ⟨⟨by show 8 ≤ 8; decide, by show 0 < 8; decide, ?_⟩, g12.mono (by omega)⟩)
      · show ∀ z ∈ [(1 : Int), 999], 1 ≤ z ∧ z ≤ 999
        decide
      · show ∀ z ∈ [(4 : Int), (6 : Int), (6 : Int), (8 : Int), (10 : Int), (12 : Int), (3 : Int), (7 : Int)], 1 ≤ z ∧ z ≤ 999
        decide
    · refine (ok_pick g11 (by omega) q2 (by omega)).bind fun v14 ⟨h14, g14⟩ => (ok_pick g14 (by omega) q2 (by omega)).bind fun v15 ⟨h15, g15⟩ => Ok.ret ⟨⟨q3 _ h14, q3 _ h15, hm, ?_, ?_, ?_, i5⟩, rfl, i2, g15.mono (by omega)⟩
      · show (s.map _).Nodup
        rw [i3, ← n2, List.take_length]; exact n1
      · show 1 ≤ s.length ∧ s.length ≤ 6
        omega
      · show ∀ y ∈ s.map _, sOk y
        rw [i3, ← n2, List.take_length]; exact n3
/-! ### boxes -/
abbrev InA (A x : Int) : Prop := -A ≤ x ∧ x ≤ A
def BxN (A : Int) (b : IB) : Prop := InA A b.1 ∧ InA A b.2.1 ∧ InA A b.2.2.1 ∧ InA A b.2.2.2
theorem cond_mo {b : Bool} {mo : Int} (h : 1 ≤ mo ∧ mo ≤ 3) : 1 ≤ cond b mo 1 ∧ cond b mo 1 ≤ 3 ∧ (cond b mo 1).toNat = cond b mo.toNat 1 := by
  cases b <;> simp <;> omega
theorem ok_wide {n : Nat} {t : Tape} {c : Bool} {step : Int} (g : Good n t) (hn : n < 900000000) (hs : 0 ≤ step ∧ step ≤ 2 ^ 18) : Ok (cond c (some ((0 : Int), t)) (m_law_draw t (4 : Int) >>= fun v1 =>
 mulR step ((1 : Int) + v1.1) >>= fun v2 =>
 fdivR v2 (4 : Int) >>= fun v3 =>
 some (v3, v1.2))) fun c => (0 ≤ c.1 ∧ c.1 ≤ step) ∧ Good (n + 1) c.2 := by
  refine Ok.cond (fun _ => Ok.ret ⟨⟨Int.le_refl 0, hs.1⟩, g.mono (by omega)⟩) (fun _ => ?_)
  refine (ok_draw g (by omega) (by decide)).bind fun v1 ⟨a1, a2, g1⟩ => ?_
  have a2 : v1.1 < max 4 1 := a2
  refine Ok.bind (ok_mulN (P := fun z => 0 ≤ z ∧ z ≤ step * 4) (A := step) (B := 4) ⟨hs.1, Int.le_refl _⟩ ⟨by omega, by omega⟩ (by omega) (by decide) fun z _ h1 h2 => ⟨h1, h2⟩) fun z hz => ?_
  refine Ok.bind (ok_divN (P := fun w => 0 ≤ w ∧ w ≤ step) hz.1 (by decide) fun w _ h1 _ h2 => ⟨h1, by omega⟩) fun w hw => Ok.ret ⟨hw, g1⟩
theorem ok_s_firm {n : Nat} {t : Tape} {head : Hd} {thing : Thg} {step : Int × Int} {up c1 c2 : Int} (g : Good n t) (hn : n < 800000000) (s1 : 0 ≤ step.1 ∧ step.1 ≤ 2 ^ 18) (s2 : 0 ≤ step.2 ∧ step.2 ≤ 2 ^ 18) (hu : 1 ≤ up ∧ up ≤ 3)
    (h1 : 0 ≤ c1 ∧ c1 ≤ 100) (h2 : 0 ≤ c2 ∧ c2 ≤ 100) (hm : 1 ≤ head.2.2.1 ∧ head.2.2.1 ≤ 3) :
    Ok (m_law_s_firm t head thing step up [c1, c2]) fun x => x.1.length = cond thing.2.2 head.2.2.1.toNat 1 ∧ (∀ b ∈ x.1, BxN (2 ^ 26) b) ∧ Good (n + 30) x.2 := by
  unfold m_law_s_firm
  refine (ok_wide g (by omega) s1).bind fun c4 ⟨w4, g4⟩ => (ok_wide g4 (by omega) s2).bind fun c9 ⟨w9, g9⟩ => ?_
  obtain ⟨m0, m1, m2⟩ := cond_mo (b := thing.2.2) hm
  refine Ok.get atI_zero ((ok_rng1 (P := fun r => r = rangeI 0 (cond thing.2.2 head.2.2.1 1)) (by unfold CRng; omega) rfl).bind fun v12 e12 => ?_)
  subst e12
  refine (ok_forS (fun i (s : List IB × Int × Int × Int × Tape) => s.1.length = i ∧ (∀ b ∈ s.1, BxN (2 ^ 26) b) ∧ (0 ≤ s.2.1 ∧ s.2.1 ≤ 100) ∧ (0 ≤ s.2.2.1 ∧ s.2.2.1 ≤ 2 ^ 25) ∧ (0 ≤ s.2.2.2.1 ∧ s.2.2.2.1 ≤ 2 ^ 25) ∧ Good (n + 2 + 6 * i) s.2.2.2.2) (rangeI 0 (cond thing.2.2 head.2.2.1 1)) 0 ([], c1, 0, 0, c9.2) ⟨rfl, fun _ h => (nomatch h), h1, ⟨Int.le_refl 0, by show (0 : Int) ≤ 2 ^ 25; decide⟩, ⟨Int.le_refl 0, by show (0 : Int) ≤ 2 ^ 25; decide⟩, g9⟩ ?_).bind ?_
  · rintro i x ⟨bs, cell, x0, y0, t1⟩ _ _ hi ⟨i1, i2, i3, i4, i5, i6⟩
    rw [len_rangeI] at hi
    have i1 : bs.length = i := i1
    have i3 : 0 ≤ cell ∧ cell ≤ 100 := i3
    have i4 : 0 ≤ x0 ∧ x0 ≤ 2 ^ 25 := i4
    have i5 : 0 ≤ y0 ∧ y0 ≤ 2 ^ 25 := i5
    have i6 : Good (n + 2 + 6 * i) t1 := i6
    refine Ok.bind (P := fun c => Good (n + 2 + 6 * i + 1) c.2) (Ok.cond (fun _ => Ok.ret (i6.mono (by omega))) (fun _ => (ok_draw i6 (by omega) (by decide)).bind fun v ⟨_, _, gg⟩ => Ok.ret gg)) fun c16 g16 => ?_
    refine Ok.bind (P := fun s => (0 ≤ s.1 ∧ s.1 ≤ 100) ∧ Good (n + 2 + 6 * i + 2) s.2) (Ok.cond (fun _ => ?_) (fun _ => Ok.ret ⟨i3, g16.mono (by omega)⟩)) fun s18 ⟨k18, g18⟩ => ?_
    · refine (ok_draw g16 (by omega) (by decide)).bind fun v19 ⟨a1, a2, g19⟩ => ?_
      have a2 : v19.1 < max 2 1 := a2
      refine (ok_atI (P := fun x => x = c1 ∨ x = c2) a1 (by show v19.1 < 2; omega) fun x hx => ?_).bind fun v20 h20 => Ok.ret ⟨?_, g19⟩
      · have := List.mem_of_getElem? hx
        simpa using this
      · rcases h20 with rfl | rfl <;> assumption
    have shift : ∀ {m : Nat} {t : Tape} {p st wd : Int}, Good m t → m < 850000000 → (0 ≤ p ∧ p ≤ 100) → (0 ≤ st ∧ st ≤ 2 ^ 18) → (0 ≤ wd ∧ wd ≤ st) → Ok (mulR p st >>= fun v23 =>
       m_law_draw t (3 : Int) >>= fun v24 =>
       mulR (st - wd) v24.1 >>= fun v25 =>
       fdivR v25 (2 : Int) >>= fun v26 =>
       lt (v23 + v26) fun x_27 =>
       some (x_27, v24.2)) fun s => (0 ≤ s.1 ∧ s.1 ≤ 2 ^ 25) ∧ Good (m + 1) s.2 := fun {m t p st wd} gm hm hp hst hwd => by
      refine Ok.bind (ok_mulN (P := fun z => 0 ≤ z ∧ z ≤ 100 * 2 ^ 18) hp hst (by decide) (by decide) fun z _ h1 h2 => ⟨h1, h2⟩) fun v23 h23 => ?_
      refine (ok_draw gm (by omega) (by decide)).bind fun v24 ⟨a1, a2, g24⟩ => ?_
      have a2 : v24.1 < max 3 1 := a2
      refine Ok.bind (ok_mulN (P := fun z => 0 ≤ z ∧ z ≤ 2 ^ 18 * 2) (x := st - wd) (A := 2 ^ 18) (B := 2) ⟨by omega, by omega⟩ ⟨a1, by omega⟩ (by decide) (by decide) fun z _ h1 h2 => ⟨h1, h2⟩) fun v25 h25 => ?_
      refine Ok.bind (ok_divN (P := fun w => 0 ≤ w ∧ w ≤ 2 ^ 19) h25.1 (by decide) fun w _ h1 h3 _ => ⟨h1, by omega⟩) fun w hw => Ok.lt (Ok.ret ⟨⟨by show 0 ≤ v23 + w; omega, by show v23 + w ≤ 2 ^ 25; omega⟩, g24⟩)
    refine Ok.bind (P := fun s => (0 ≤ s.1 ∧ s.1 ≤ 2 ^ 25) ∧ Good (n + 2 + 6 * i + 3) s.2) (Ok.cond (fun _ => ?_) (fun _ => Ok.ret ⟨i4, g18.mono (by omega)⟩)) fun s21 ⟨k21, g21⟩ => ?_
    · refine Ok.bind (ok_divN (P := fun w => 0 ≤ w ∧ w ≤ 100) k18.1 ⟨hu.1, by omega⟩ fun w _ h1 h2 _ => ⟨h1, by omega⟩) fun w hw => ?_
      exact (shift g18 (by omega) hw s1 w4).imp fun s h => h
    refine Ok.bind (P := fun s => (0 ≤ s.1 ∧ s.1 ≤ 2 ^ 25) ∧ Good (n + 2 + 6 * i + 4) s.2) (Ok.cond (fun _ => ?_) (fun _ => Ok.ret ⟨i5, g21.mono (by omega)⟩)) fun s28 ⟨k28, g28⟩ => ?_
    · refine Ok.bind (ok_mod (P := fun w => 0 ≤ w ∧ w ≤ 100) (by omega) fun m h1 h2 _ => ⟨h1, by omega⟩) fun w hw => ?_
      exact (shift g21 (by omega) hw s2 w9).imp fun s h => h
    refine Ok.get (pushR_eq (by omega)) (Ok.ret ⟨?_, fun b hb => ?_, k18, k21, k28, g28.mono (by omega)⟩)
    · show (bs ++ [_]).length = i + 1; simp [i1]
    · rcases List.mem_append.mp hb with h | h
      · exact i2 b h
      · rw [List.mem_singleton.mp h]
        refine ⟨?_, ?_, ?_, ?_⟩
        · show InA _ s21.1; omega
        · show InA _ s28.1; omega
        · show InA _ (s21.1 + c4.1); omega
        · show InA _ (s28.1 + c9.1); omega
  · rintro ⟨bs, cell, x0, y0, t1⟩ ⟨i1, i2, _, _, _, i6⟩
    rw [len_rangeI] at i1 i6
    refine Ok.ret ⟨?_, i2, i6.mono (by omega)⟩
    have i1 : bs.length = 0 + (cond thing.2.2 head.2.2.1 1 - 0).toNat := i1
    show bs.length = _
    rw [← m2]; omega
theorem ok_s_stretch {n : Nat} {t : Tape} {cuts : List Int} (g : Good n t) (hn : n < 900000000) (h2 : 2 ≤ cuts.length) (hl : cuts.length ≤ 1000) (hs : cuts.Pairwise (· < ·)) : Ok (m_law_s_stretch t cuts) fun x => x.1.1 ∈ cuts ∧ x.1.2 ∈ cuts ∧ x.1.1 < x.1.2 ∧ Good (n + 2) x.2 := by
  unfold m_law_s_stretch
  refine (ok_draw g (by omega) (by omega)).bind fun v1 ⟨a1, a2, g1⟩ => ?_
  have a2 : v1.1 < max ((cuts.length : Int) - 1) 1 := a2
  obtain ⟨i, hi⟩ := Int.eq_ofNat_of_zero_le a1
  have il : i < cuts.length := by omega
  have gi : cuts[i]? = some cuts[i] := List.getElem?_eq_getElem il
  refine Ok.get (v := cuts[i]) (by rw [hi]; exact atI_nat gi) ((ok_draw g1 (by omega) (by omega)).bind fun v3 ⟨b1, b2, g3⟩ => ?_)
  have b2 : v3.1 < max ((cuts.length : Int) - 1 - v1.1) 1 := b2
  obtain ⟨j, hj⟩ := Int.eq_ofNat_of_zero_le (a := v1.1 + 1 + v3.1) (by omega)
  have jl : j < cuts.length := by omega
  have gj : cuts[j]? = some cuts[j] := List.getElem?_eq_getElem jl
  refine Ok.get (v := cuts[j]) (by rw [hj]; exact atI_nat gj) (Ok.ret ⟨List.getElem_mem il, List.getElem_mem jl, ?_, g3⟩)
  exact List.pairwise_iff_getElem.mp hs i j il jl (by omega)
theorem minI_b {x y A : Int} (hx : InA A x) (hy : InA A y) : InA A (minI x y) := by unfold minI; split <;> assumption
theorem InA.mono {x A B : Int} (h : InA A x) (e : A ≤ B) : InA B x := by omega
/-- rows of cuts -/
structure CutQ (cuts : List Int) : Prop where
  two : 2 ≤ cuts.length
  few : cuts.length ≤ 100
  up : cuts.Pairwise (· < ·)
  bd : ∀ x ∈ cuts, InA (2 ^ 26) x
theorem ok_s_loose {n : Nat} {t : Tape} {head : Hd} {thing : Thg} {cuts : List Int × List Int} (g : Good n t) (hn : n < 800000000) (k1 : CutQ cuts.1) (k2 : CutQ cuts.2) (ha : 1 ≤ head.1 ∧ head.1 ≤ 999) (hb : 1 ≤ head.2.1 ∧ head.2.1 ≤ 999) (hm : 1 ≤ head.2.2.1 ∧ head.2.2.1 ≤ 3) :
    Ok (m_law_s_loose t head thing cuts) fun x => (thing.2.1 ≠ "land" → x.1.length = cond thing.2.2 head.2.2.1.toNat 1) ∧ (1 ≤ x.1.length ∧ x.1.length ≤ 3) ∧ (∀ b ∈ x.1, BxN (2 ^ 29) b) ∧ Good (n + 20) x.2 := by
  unfold m_law_s_loose
  obtain ⟨m0, m1, m2⟩ := cond_mo (b := thing.2.2) hm
  refine Ok.lt (Ok.bind (P := fun s => (1 ≤ s.1 ∧ s.1 ≤ 3 ∧ (thing.2.1 ≠ "land" → s.1.toNat = cond thing.2.2 head.2.2.1.toNat 1)) ∧ Good (n + 1) s.2) (Ok.cond (fun h => ?_) (fun _ => Ok.ret ⟨⟨m0, m1, fun _ => m2⟩, g.mono (by omega)⟩)) fun s2 ⟨⟨q1, q2, q3⟩, gs2⟩ => Ok.lt (Ok.lt ?_))
  · refine (ok_draw g (by omega) (by decide)).bind fun v3 ⟨a1, a2, g3⟩ => Ok.lt (Ok.ret ⟨⟨?_, ?_, fun z => absurd (of_decide_eq_true h) z⟩, g3⟩)
    · show 1 ≤ 1 + v3.1; omega
    · have a2 : v3.1 < max 3 1 := a2
      show 1 + v3.1 ≤ 3; omega
  refine (ok_rng1 (P := fun r => r = rangeI 0 s2.1) (by unfold CRng; omega) rfl).bind fun v7 e7 => ?_
  subst e7
  refine (ok_forS (fun i (s : List IB × (Int × Int) × (Int × Int) × Int × Int × Tape) => s.1.length = i ∧ (∀ b ∈ s.1, BxN (2 ^ 29) b) ∧ (InA (2 ^ 26) s.2.1.1 ∧ InA (2 ^ 26) s.2.1.2) ∧ (InA (2 ^ 26) s.2.2.1.1 ∧ InA (2 ^ 26) s.2.2.1.2) ∧ InA (2 ^ 28) s.2.2.2.1 ∧ InA (2 ^ 28) s.2.2.2.2.1 ∧ Good (n + 1 + 6 * i) s.2.2.2.2.2) (rangeI 0 s2.1) 0 ([], ((0 : Int), (0 : Int)), ((0 : Int), (0 : Int)), 0, 0, s2.2) ⟨rfl, fun _ h => (nomatch h), ⟨⟨by show -(2 ^ 26 : Int) ≤ 0; decide, by show (0 : Int) ≤ 2 ^ 26; decide⟩, ⟨by show -(2 ^ 26 : Int) ≤ 0; decide, by show (0 : Int) ≤ 2 ^ 26; decide⟩⟩, ⟨⟨by show -(2 ^ 26 : Int) ≤ 0; decide, by show (0 : Int) ≤ 2 ^ 26; decide⟩, ⟨by show -(2 ^ 26 : Int) ≤ 0; decide, by show (0 : Int) ≤ 2 ^ 26; decide⟩⟩, ⟨by show -(2 ^ 28 : Int) ≤ 0; decide, by show (0 : Int) ≤ 2 ^ 28; decide⟩, ⟨by show -(2 ^ 28 : Int) ≤ 0; decide, by show (0 : Int) ≤ 2 ^ 28; decide⟩, gs2⟩ ?_).bind ?_
  · rintro i x ⟨bs, ⟨o1, o2⟩, ⟨w1, w2⟩, x0, y0, t1⟩ _ _ hi ⟨i1, i2, i3, i4, i5, i6, i7⟩
    rw [len_rangeI] at hi
    have i1 : bs.length = i := i1
    have i3 : InA (2 ^ 26) o1 ∧ InA (2 ^ 26) o2 := i3
    have i4 : InA (2 ^ 26) w1 ∧ InA (2 ^ 26) w2 := i4
    have i5 : InA (2 ^ 28) x0 := i5
    have i6 : InA (2 ^ 28) y0 := i6
    have i7 : Good (n + 1 + 6 * i) t1 := i7
    refine Ok.bind (P := fun s => (InA (2 ^ 26) s.1.1 ∧ InA (2 ^ 26) s.1.2) ∧ (InA (2 ^ 26) s.2.1.1 ∧ InA (2 ^ 26) s.2.1.2) ∧ InA (2 ^ 28) s.2.2.1 ∧ InA (2 ^ 28) s.2.2.2.1 ∧ Good (n + 1 + 6 * i + 5) s.2.2.2.2) (Ok.cond (fun _ => ?_) (fun _ => ?_)) fun s10 ⟨p1, p2, p3, p4, p5⟩ => ?_
    · refine (ok_s_stretch i7 (by omega) k1.two (by have := k1.few; omega) k1.up).bind fun v11 ⟨a1, a2, _, g11⟩ => (ok_s_stretch g11 (by omega) k2.two (by have := k2.few; omega) k2.up).bind fun v12 ⟨b1, b2, _, g12⟩ => Ok.ret ?_
      have e1 := k1.bd _ a1
      have e2 := k2.bd _ b1
      exact ⟨⟨e1, k1.bd _ a2⟩, ⟨e2, k2.bd _ b2⟩, e1.mono (by decide), e2.mono (by decide), g12.mono (by omega)⟩
    · refine Ok.bind (P := fun s => InA (2 ^ 28) s.1 ∧ InA (2 ^ 28) s.2.1 ∧ Good (n + 1 + 6 * i + 3) s.2.2) ?_ fun s13 ⟨r1, r2, r3⟩ => Ok.ret ⟨i3, i4, r1, r2, r3.mono (by omega)⟩
      refine Ok.bind (P := fun c => Good (n + 1 + 6 * i + 1) c.2) (Ok.cond (fun _ => Ok.ret (i7.mono (by omega))) (fun _ => (ok_draw i7 (by omega) (by decide)).bind fun v ⟨_, _, gg⟩ => Ok.ret gg)) fun c15 g15 => ?_
      refine Ok.cond (fun _ => ?_) (fun _ => Ok.ret ⟨i5, i6, g15.mono (by omega)⟩)
      refine (ok_pick g15 (by omega) (by have := k1.two; omega) (by have := k1.few; omega)).bind fun v17 ⟨h17, g17⟩ => ?_
      refine Ok.bind (ok_mulN (P := fun z => 0 ≤ z ∧ z ≤ 192 * 999) (x := 192) (A := 192) (by decide) ⟨by omega, ha.2⟩ (by decide) (by decide) fun z _ h1 h2 => ⟨h1, h2⟩) fun v18 h18 => Ok.lt ?_
      refine (ok_pick g17 (by omega) (by have := k2.two; omega) (by have := k2.few; omega)).bind fun v20 ⟨h20, g20⟩ => ?_
      refine Ok.bind (ok_mulN (P := fun z => 0 ≤ z ∧ z ≤ 192 * 999) (x := 192) (A := 192) (by decide) ⟨by omega, hb.2⟩ (by decide) (by decide) fun z _ h1 h2 => ⟨h1, h2⟩) fun v21 h21 => Ok.lt (Ok.ret ⟨?_, ?_, g20⟩)
      · have := k1.bd _ h17
        exact minI_b (this.mono (by decide)) (by show InA _ (v18 - o2 + o1); omega)
      · have := k2.bd _ h20
        exact minI_b (this.mono (by decide)) (by show InA _ (v21 - w2 + w1); omega)
    refine Ok.get (pushR_eq (by omega)) (Ok.ret ⟨?_, fun b hb => ?_, p1, p2, p3, p4, p5.mono (by omega)⟩)
    · show (bs ++ [_]).length = i + 1; simp [i1]
    · rcases List.mem_append.mp hb with h | h
      · exact i2 b h
      · rw [List.mem_singleton.mp h]
        refine ⟨?_, ?_, ?_, ?_⟩
        · show InA _ s10.2.2.1; omega
        · show InA _ s10.2.2.2.1; omega
        · show InA _ (s10.2.2.1 + s10.1.2 - s10.1.1); omega
        · show InA _ (s10.2.2.2.1 + s10.2.1.2 - s10.2.1.1); omega
  · rintro ⟨bs, o, w, x0, y0, t1⟩ ⟨i1, i2, _, _, _, _, i7⟩
    rw [len_rangeI] at i1 i7
    have i1 : bs.length = 0 + (s2.1 - 0).toNat := i1
    refine Ok.ret ⟨fun z => ?_, ?_, i2, i7.mono (by omega)⟩
    · show bs.length = _
      rw [← q3 z]; omega
    · show 1 ≤ bs.length ∧ bs.length ≤ 3
      omega
end Ty

set_option maxHeartbeats 4000000
/-! drawn worlds, their placings: plain Lean -/
namespace Ty
open PySem L2
theorem setR_nat {α : Type} {ys : List α} {i : Nat} {x : α} (h : i < ys.length) : setR ys (i : Int) x = some (ys.set i x) := by
  unfold setR ixN
  rw [if_pos (by omega), if_pos (by omega)]
  simp
/-- rows of numbers that grow -/
structure RowQ (k : Nat) (xs : List Int) : Prop where
  few : xs.length ≤ k
  z : (0 : Int) ∈ xs
  w : ∃ z ∈ xs, z ≠ 0
  bd : ∀ x ∈ xs, InA (2 ^ 26) x
theorem RowQ.mono {k l : Nat} {xs : List Int} (h : RowQ k xs) (e : k ≤ l) : RowQ l xs := ⟨Nat.le_trans h.few e, h.z, h.w, h.bd⟩
theorem RowQ.add {k : Nat} {xs : List Int} {a b : Int} (h : RowQ k xs) (ha : InA (2 ^ 26) a) (hb : InA (2 ^ 26) b) : RowQ (k + 2) (xs ++ [a, b]) := by
  refine ⟨?_, List.mem_append_left _ h.z, ?_, fun x hx => ?_⟩
  · rw [List.length_append]; have := h.few; show xs.length + 2 ≤ _; omega
  · obtain ⟨z, hz, h0⟩ := h.w; exact ⟨z, List.mem_append_left _ hz, h0⟩
  · rcases List.mem_append.mp hx with q | q
    · exact h.bd x q
    · simp only [List.mem_cons, List.not_mem_nil, or_false] at q
      rcases q with rfl | rfl <;> assumption
theorem RowQ.cut {k : Nat} {xs : List Int} (h : RowQ k xs) (hk : k < 63) : setR' xs = some (setI xs) ∧ CutQ (setI xs) := by
  have f := h.few
  refine ⟨if_pos (by omega), ?_, ?_, setI_lt xs, fun x hx => h.bd x (setI_mem.mp hx)⟩
  · obtain ⟨z, hz, h0⟩ := h.w
    have m0 := setI_mem.mpr h.z
    have m1 := setI_mem.mpr hz
    match e : setI xs with
    | [] => rw [e] at m0; nomatch m0
    | [a] =>
      rw [e, List.mem_singleton] at m0 m1
      omega
    | a :: b :: r => show 2 ≤ r.length + 1 + 1; omega
  · have := setI_len xs
    omega
/-- a thing's boxes -/
def ShP (head : Hd) (t : Thg) (p : List IB) : Prop := (t.2.1 ≠ "land" → p.length = cond t.2.2 head.2.2.1.toNat 1) ∧ (1 ≤ p.length ∧ p.length ≤ 3) ∧ ∀ b ∈ p, BxN (2 ^ 29) b
structure WdQ (head : Hd) (places : List (List IB)) : Prop where
  len : places.length = head.2.2.2.length
  sh : ∀ (i : Nat) (t : Thg) (p : List IB), head.2.2.2[i]? = some t → places[i]? = some p → ShP head t p
theorem BxN.mono {k l : Int} {b : IB} (h : BxN k b) (e : k ≤ l) : BxN l b := ⟨h.1.mono e, h.2.1.mono e, h.2.2.1.mono e, h.2.2.2.mono e⟩
theorem ok_s_world {n : Nat} {t : Tape} {head : Hd} (H : HdS head) (g : Good n t) (hn : n < 700000000) : Ok (m_law_s_world t head) fun x => (x.1.1 = head ∧ x.1.2.1 = 192 ∧ WdQ head x.1.2.2) ∧ Good (n + 1000) x.2 := by
  unfold m_law_s_world
  obtain ⟨f1, f2⟩ := H.few
  refine Ok.get (fltR_eq' (fun t : Thg => decide (t.2.1 ∈ [("body" : Str), ("upright" : Str), ("lying" : Str)])) (·.1) _ (fun _ _ => rfl) (fun _ _ => rfl)) ?_
  have fl : ((head.2.2.2.filter fun t : Thg => decide (t.2.1 ∈ [("body" : Str), ("upright" : Str), ("lying" : Str)])).map (·.1)).length ≤ 6 := by
    rw [List.length_map]
    exact Nat.le_trans (List.length_filter_le ..) f2
  generalize ((head.2.2.2.filter fun t : Thg => decide (t.2.1 ∈ [("body" : Str), ("upright" : Str), ("lying" : Str)])).map (·.1)) = firm at fl ⊢
  refine (ok_pick g (by omega) (by show 0 < 4; decide) (by show 4 < _; decide)).bind fun v3 ⟨h3, g3⟩ => ?_
  have b3 : 1 ≤ v3.1.1 ∧ v3.1.1 ≤ 3 ∧ 1 ≤ v3.1.2 ∧ v3.1.2 ≤ 2 := by
    simp only [List.mem_cons, List.not_mem_nil, or_false] at h3
    rcases h3 with h | h | h | h <;> rw [h] <;> decide
  obtain ⟨b31, b32, b33, b34⟩ := b3
  refine Ok.bind (P := fun s : Int × Int × Tape => (1 ≤ s.1 ∧ s.1 ≤ 3) ∧ (1 ≤ s.2.1 ∧ s.2.1 ≤ 3) ∧ (firm.length : Int) ≤ s.1 * s.2.1 ∧ Good (n + 2) s.2.2) ?_ fun s4 ⟨p1, p2, p3, g4⟩ => ?_
  · refine Ok.get (mulR_s (by omega) (by omega)) (Ok.cond (fun _ => ?_) (fun h => Ok.ret ⟨⟨b31, b32⟩, ⟨b33, by show v3.1.2 ≤ 3; omega⟩, ?_, g3.mono (by omega)⟩))
    · refine (ok_pick g3 (by omega) (by show 0 < 2; decide) (by show 2 < _; decide)).bind fun v6 ⟨h6, g6⟩ => Ok.ret ?_
      simp only [List.mem_cons, List.not_mem_nil, or_false] at h6
      have b6 : (1 ≤ v6.1.1 ∧ v6.1.1 ≤ 3) ∧ (1 ≤ v6.1.2 ∧ v6.1.2 ≤ 3) ∧ v6.1.1 * v6.1.2 = 6 := by
        rcases h6 with h | h <;> rw [h] <;> decide
      refine ⟨b6.1, b6.2.1, ?_, g6⟩
      show (firm.length : Int) ≤ v6.1.1 * v6.1.2
      rw [b6.2.2]; omega
    · have h := of_decide_eq_false h
      show (firm.length : Int) ≤ v3.1.1 * v3.1.2
      omega
  refine Ok.bind (ok_mulN (P := fun z => z = s4.1 * s4.2.1 ∧ 0 ≤ z ∧ z ≤ 9) (A := 3) (B := 3) ⟨by omega, p1.2⟩ ⟨by omega, p2.2⟩ (by decide) (by decide) fun z e h1 h2 => ⟨e, h1, h2⟩) fun v7 ⟨e7, h71, h72⟩ => ?_
  rw [← e7] at p3
  refine (ok_rng1 (P := fun r => r = rangeI 0 v7) (by unfold CRng; omega) rfl).bind fun v8 e8 => ?_
  subst e8
  refine (ok_shuffled g4 (by omega) (by rw [len_rangeI]; omega)).bind fun v9 ⟨h9, g9⟩ => ?_
  have cl : v9.1.length = v7.toNat := by rw [h9.length_eq, len_rangeI]; simp
  have cb : ∀ c ∈ v9.1, 0 ≤ c ∧ c ≤ 100 := fun c hc => by
    have := mem_rangeI (h9.mem_iff.mp hc)
    omega
  have g9 : Good (n + 11) v9.2 := g9.mono (by rw [len_rangeI]; omega)
  generalize v9.1 = cells at cl cb ⊢
  have grow : ∀ {k h : Int} {P : Int → Prop}, 1 ≤ h ∧ h ≤ 999 → 0 ≤ k ∧ k ≤ 192 → (∀ z, z = k * h → 0 ≤ z → z ≤ 192 * 999 → P z) → Ok (mulR k h) P := fun {k h P} hh hk p => ok_mulN (A := 192) (B := 999) ⟨hk.1, hk.2⟩ ⟨by omega, hh.2⟩ (by decide) (by decide) p
  refine Ok.bind (grow (P := fun z => 0 ≤ z ∧ z ≤ 192 * 999) H.a (by decide) fun z _ h1 h2 => ⟨h1, h2⟩) fun v10 h10 => ?_
  refine Ok.bind (ok_divN (P := fun w => 0 ≤ w ∧ w ≤ 2 ^ 18) h10.1 ⟨p1.1, by omega⟩ fun w _ h1 h2 _ => ⟨h1, by omega⟩) fun v11 h11 => ?_
  refine Ok.bind (grow (P := fun z => 0 ≤ z ∧ z ≤ 192 * 999) H.b (by decide) fun z _ h1 h2 => ⟨h1, h2⟩) fun v12 h12 => ?_
  refine Ok.bind (ok_divN (P := fun w => 0 ≤ w ∧ w ≤ 2 ^ 18) h12.1 ⟨p2.1, by omega⟩ fun w _ h1 h2 _ => ⟨h1, by omega⟩) fun v13 h13 => Ok.lt ?_
  have row : ∀ {h : Int} {t : Tape} {m : Nat} {ρ : Type} {k : List Int → Int × Tape → Option ρ} {Q : ρ → Prop}, 1 ≤ h ∧ h ≤ 999 → Good m t → m < 800000000 → (∀ xs v, RowQ 4 xs → Good (m + 1) v.2 → Ok (k xs v) Q) → Ok (mulR (96 : Int) h >>= fun v15 =>
     mulR (192 : Int) h >>= fun v16 =>
     mulR (12 : Int) h >>= fun v17 =>
     m_law_draw t (17 : Int) >>= fun v18 =>
     mulR v17 v18.1 >>= fun v19 =>
     lt ([(0 : Int), v15, v16, v19]) fun xs_20 => k xs_20 v18) Q := fun {h t m ρ k Q} hh gm hm hk => by
    refine Ok.bind (grow (P := fun z => 0 ≤ z ∧ z ≤ 192 * 999) hh (by decide) fun z _ h1 h2 => ⟨h1, h2⟩) fun v15 h15 => ?_
    refine Ok.bind (grow (P := fun z => z = 192 * h ∧ 0 ≤ z ∧ z ≤ 192 * 999) hh (by decide) fun z e h1 h2 => ⟨e, h1, h2⟩) fun v16 h16 => ?_
    refine Ok.bind (grow (P := fun z => 0 ≤ z ∧ z ≤ 192 * 999) hh (by decide) fun z _ h1 h2 => ⟨h1, h2⟩) fun v17 h17 => ?_
    refine (ok_draw gm (by omega) (by decide)).bind fun v18 ⟨a1, a2, g18⟩ => ?_
    have a2 : v18.1 < max 17 1 := a2
    refine Ok.bind (ok_mulN (P := fun z => 0 ≤ z ∧ z ≤ 192 * 999 * 17) h17 ⟨a1, by omega⟩ (by decide) (by decide) fun z _ h1 h2 => ⟨h1, h2⟩) fun v19 h19 => Ok.lt (hk _ _ ⟨Nat.le_refl 4, List.mem_cons_self .., ⟨v16, by simp, by omega⟩, fun x hx => ?_⟩ g18)
    simp only [List.mem_cons, List.not_mem_nil, or_false] at hx
    omega
  refine row H.a g9 (by omega) fun xs t18 rx g18 => ?_
  refine row H.b g18 (by omega) fun ys t24 ry g24 => ?_
  refine Ok.get (mapR_eq (fun _ : Thg => ([] : List IB)) _) ?_
  refine (ok_rng1 (P := fun r => r = rangeI 0 (head.2.2.2.length : Int)) (by unfold CRng; omega) rfl).bind fun v29 e29 => ?_
  subst e29
  refine (ok_forI (fun i (s : List Int × List Int × List (List IB) × Tape) => i ≤ head.2.2.2.length ∧ RowQ (4 + 6 * i) s.1 ∧ RowQ (4 + 6 * i) s.2.1 ∧ s.2.2.1.length = head.2.2.2.length ∧ (∀ (j : Nat) (t : Thg) (p : List IB), head.2.2.2[j]? = some t → s.2.2.1[j]? = some p → j < i → t.1 ∈ firm → ShP head t p) ∧ Good (n + 13 + 30 * i) s.2.2.2)
    (rangeI 0 (head.2.2.2.length : Int)) 0 (xs, ys, head.2.2.2.map (fun _ => []), t24.2) ⟨Nat.zero_le _, rx, ry, by simp, fun _ _ _ _ _ h => by omega, g24⟩ fun j x s hj hI => ?_).bind fun s30 hI => ?_
  · rw [Nat.zero_add] at hI ⊢
    obtain ⟨i1, i2, i3, i4, i5, i6⟩ := hI
    obtain ⟨rfl, hjl⟩ := rangeI_get hj
    have hjl : j < head.2.2.2.length := by omega
    have gt : head.2.2.2[j]? = some head.2.2.2[j] := List.getElem?_eq_getElem hjl
    generalize head.2.2.2[j] = th at gt
    refine Ok.bind (P := fun r : List Int × List Int × List (List IB) × Tape => RowQ (4 + 6 * (j + 1)) r.1 ∧ RowQ (4 + 6 * (j + 1)) r.2.1 ∧ r.2.2.1.length = head.2.2.2.length ∧ (∀ (j' : Nat) (t : Thg) (p : List IB), head.2.2.2[j']? = some t → r.2.2.1[j']? = some p → j' < j + 1 → t.1 ∈ firm → ShP head t p) ∧ Good (n + 13 + 30 * (j + 1)) r.2.2.2) ?_ fun r ⟨r1, r2, r3, r4, r5⟩ => Ok.ret ⟨by omega, r1, r2, r3, r4, r5⟩
    refine Ok.get (atI_nat gt) (Ok.cond (fun h => ?_) (fun h => Ok.ret ⟨i2.mono (by omega), i3.mono (by omega), i4, fun j' t p ht hp hj' hm => ?_, i6.mono (by omega)⟩))
    · have h := of_decide_eq_true h
      have il := List.idxOf_lt_length_iff.mpr h
      have cl' : firm.idxOf th.1 < cells.length := by omega
      have g35 : cells[firm.idxOf th.1]? = some (cells[firm.idxOf th.1]'cl') := List.getElem?_eq_getElem cl'
      refine Ok.get (atI_nat gt) (Ok.get (v := ((firm.idxOf th.1 : Nat) : Int)) (if_pos h) ?_)
      refine Ok.bind (P := fun c => 0 ≤ c ∧ c ≤ 100) (Ok.cond (fun hc => ?_) (fun _ => Ok.get (atI_nat g35) (Ok.ret (cb _ (List.getElem_mem cl'))))) fun c38 h38 => ?_
      · have hc := of_decide_eq_true hc
        exact (ok_atI (P := fun c => 0 ≤ c ∧ c ≤ 100) (by omega) hc fun x hx => cb x (List.mem_of_getElem? hx)).bind fun c h => Ok.ret h
      · refine Ok.get (atI_nat gt) (Ok.get (atI_nat g35) ((ok_s_firm i6 (by omega) h11 h13 p2 (cb _ (List.getElem_mem cl')) h38 H.mo).bind fun v41 ⟨a1, a2, g41⟩ => ?_))
        have sl : j < s.2.2.1.length := by omega
        have mo := H.mo
        have len3 : 1 ≤ v41.1.length ∧ v41.1.length ≤ 3 := by
          rw [a1]
          cases th.2.2 <;> simp <;> omega
        have gv : (s.2.2.1.set j v41.1)[j]? = some v41.1 := List.getElem?_set_self sl
        refine Ok.get (setR_nat sl) (Ok.get (atI_nat gv) ?_)
        refine (ok_forS (fun k (r : List Int × List Int) => RowQ (4 + 6 * j + 2 * k) r.1 ∧ RowQ (4 + 6 * j + 2 * k) r.2) v41.1 0 (s.1, s.2.1) ⟨i2, i3⟩ fun k b r hb _ _ ⟨q1, q2⟩ => ?_).bind fun r ⟨q1, q2⟩ => Ok.ret ⟨q1.mono (by omega), q2.mono (by omega), ?_, fun j' t p ht hp hj' hm => ?_, g41.mono (by omega)⟩
        · obtain ⟨d1, d2, d3, d4⟩ := a2 b hb
          have f1 := q1.few
          have f2 := q2.few
          exact Ok.bind (ok_cat (P := fun z => z = r.1 ++ [b.1, b.2.2.1]) (by show r.1.length + 2 ≤ _; omega) rfl) fun z ez => Ok.bind (ok_cat (P := fun z => z = r.2 ++ [b.2.1, b.2.2.2]) (by show r.2.length + 2 ≤ _; omega) rfl) fun z2 ez2 => Ok.ret ⟨by show RowQ _ z; rw [ez]; exact (q1.add d1 d3).mono (by omega), by show RowQ _ z2; rw [ez2]; exact (q2.add d2 d4).mono (by omega)⟩
        · show (s.2.2.1.set j v41.1).length = _
          rw [List.length_set]; exact i4
        · have hp : (s.2.2.1.set j v41.1)[j']? = some p := hp
          by_cases e : j' = j
          · subst e
            rw [gv] at hp
            cases hp
            rw [gt] at ht
            cases ht
            exact ⟨fun _ => a1, len3, fun b hb => (a2 b hb).mono (by decide)⟩
          · rw [List.getElem?_set_ne (by omega)] at hp
            exact i5 j' t p ht hp (by omega) hm
    · have h := of_decide_eq_false h
      by_cases e : j' = j
      · subst e
        rw [gt] at ht
        cases ht
        exact absurd hm h
      · exact i5 j' t p ht hp (by omega) hm
  · rw [len_rangeI, Nat.zero_add, show ((head.2.2.2.length : Int) - 0).toNat = head.2.2.2.length by omega] at hI
    obtain ⟨_, i2, i3, i4, i5, i6⟩ := hI
    obtain ⟨e54, k54⟩ := i2.cut (by omega)
    obtain ⟨e55, k55⟩ := i3.cut (by omega)
    refine (ok_rng1 (P := fun r => r = rangeI 0 (head.2.2.2.length : Int)) (by unfold CRng; omega) rfl).bind fun v48 e48 => ?_
    subst e48
    refine (ok_forI (fun i (s : List (List IB) × Tape) => i ≤ head.2.2.2.length ∧ s.1.length = head.2.2.2.length ∧ (∀ (j : Nat) (t : Thg) (p : List IB), head.2.2.2[j]? = some t → s.1[j]? = some p → (t.1 ∈ firm ∨ j < i) → ShP head t p) ∧ Good (n + 13 + 30 * head.2.2.2.length + 30 * i) s.2)
      (rangeI 0 (head.2.2.2.length : Int)) 0 (s30.2.2.1, s30.2.2.2) ⟨Nat.zero_le _, i4, fun j t p ht hp hm => i5 j t p ht hp ((List.getElem?_eq_some_iff.mp ht).1) (by rcases hm with h | h; exact h; omega), i6⟩ fun j x s hj hI => ?_).bind fun s49 hI => ?_
    · rw [Nat.zero_add] at hI ⊢
      obtain ⟨q1, q2, q3, q4⟩ := hI
      obtain ⟨rfl, hjl⟩ := rangeI_get hj
      have hjl : j < head.2.2.2.length := by omega
      have gt : head.2.2.2[j]? = some head.2.2.2[j] := List.getElem?_eq_getElem hjl
      generalize head.2.2.2[j] = th at gt
      refine Ok.bind (P := fun r : List (List IB) × Tape => r.1.length = head.2.2.2.length ∧ (∀ (j' : Nat) (t : Thg) (p : List IB), head.2.2.2[j']? = some t → r.1[j']? = some p → (t.1 ∈ firm ∨ j' < j + 1) → ShP head t p) ∧ Good (n + 13 + 30 * head.2.2.2.length + 30 * (j + 1)) r.2) ?_ fun r ⟨r3, r4, r5⟩ => Ok.ret ⟨by omega, r3, r4, r5⟩
      refine Ok.get (atI_nat gt) (Ok.cond (fun h => ?_) (fun h => Ok.ret ⟨q2, fun j' t p ht hp hm => ?_, q4.mono (by omega)⟩))
      · refine Ok.get (atI_nat gt) (Ok.get e54 (Ok.get e55 ((ok_s_loose (thing := th) (cuts := (setI s30.1, setI s30.2.1)) q4 (by omega) k54 k55 H.a H.b H.mo).bind fun v56 ⟨a1, a2, a3, g56⟩ => ?_)))
        have sl : j < s.1.length := by omega
        have gv : (s.1.set j v56.1)[j]? = some v56.1 := List.getElem?_set_self sl
        refine Ok.get (setR_nat sl) (Ok.ret ⟨?_, fun j' t p ht hp hm => ?_, g56.mono (by omega)⟩)
        · show (s.1.set j v56.1).length = _
          rw [List.length_set]; exact q2
        · have hp : (s.1.set j v56.1)[j']? = some p := hp
          by_cases e : j' = j
          · subst e
            rw [gv] at hp
            cases hp
            rw [gt] at ht
            cases ht
            exact ⟨a1, a2, a3⟩
          · rw [List.getElem?_set_ne (by omega)] at hp
            exact q3 j' t p ht hp (by rcases hm with h | h; exact .inl h; exact .inr (by omega))
      · have h : th.1 ∈ firm := by simpa using h
        by_cases e : j' = j
        · subst e
          rw [gt] at ht
          cases ht
          exact q3 _ _ p gt hp (.inl h)
        · exact q3 j' t p ht hp (by rcases hm with h | h; exact .inl h; exact .inr (by omega))
    · rw [len_rangeI, Nat.zero_add, show ((head.2.2.2.length : Int) - 0).toNat = head.2.2.2.length by omega] at hI
      obtain ⟨_, q2, q3, q4⟩ := hI
      exact Ok.ret ⟨⟨rfl, rfl, q2, fun i t p ht hp => q3 i t p ht hp (.inr (List.getElem?_eq_some_iff.mp ht).1)⟩, q4.mono (by omega)⟩
/-! ### placings of worlds -/
def plcOf (places : List (List IB)) : Plc := places.map fun p => p.map (frB 192)
theorem s_placing_eq {head : Hd} {places : List (List IB)} (h : ∀ p ∈ places, ∀ b ∈ p, BxN (2 ^ 29) b) : m_law_s_placing (head, 192, places) = some (plcOf places) := by
  unfold m_law_s_placing
  have one : ∀ x : Int, (m_law_low x 192 >>= fun v4 => some v4) = some (lowV x 192) := fun x => by
    rw [low_eq, lowR_eq (by decide) (by decide)]; rfl
  refine Ok.eq (Ok.get (mapR_eq' (fun p : List IB => p.map fun b : IB => [lowV b.1 192, lowV b.2.1 192, lowV b.2.2.1 192, lowV b.2.2.2 192]) _ fun p hp => ?_) ?_)
  · rw [mapR_eq' (fun b : IB => [lowV b.1 192, lowV b.2.1 192, lowV b.2.2.1 192, lowV b.2.2.2 192]) _ fun b hb => ?_]
    · rfl
    · rw [mapR_eq' (fun x : Int => lowV x 192) _ fun x _ => one x]; rfl
  · refine Ok.get (v := plcOf places) ?_ (Ok.ret rfl)
    show mapR _ ((places.map _).map _) = _
    rw [mapR_map2, mapR_map2]
    refine mapR_eq' (fun p : List IB => p.map (frB 192)) _ fun p _ => ?_
    show mapR _ ((p.map _).map _) = _
    rw [mapR_map2, mapR_map2]
    exact mapR_eq' (frB 192) _ fun b _ => rfl
theorem toI_fr (b : IB) : toI 192 (frB 192 b) = b := by
  have one : ∀ x : Int, wI 192 (lowV x 192) = x := fun x => by
    obtain ⟨m1, m2⟩ := lowV_mul (n := x) (d := 192) (by decide)
    have p := lowV_pos (n := x) (d := 192) (by decide)
    have e := wI_mul (unit := 192) (f := lowV x 192) ⟨_, m2.symm⟩
    have h : wI 192 (lowV x 192) * (lowV x 192).2 = x * (lowV x 192).2 := by
      rw [e]
      calc (lowV x 192).1 * 192 = (lowV x 192).1 * ((lowV x 192).2 * sgR x 192) := by rw [m2]
        _ = ((lowV x 192).1 * sgR x 192) * (lowV x 192).2 := by rw [Int.mul_assoc, Int.mul_comm (sgR x 192)]
        _ = x * (lowV x 192).2 := by rw [m1]
    exact Int.eq_of_mul_eq_mul_right (by omega) h
  show (wI 192 (lowV b.1 192), wI 192 (lowV b.2.1 192), wI 192 (lowV b.2.2.1 192), wI 192 (lowV b.2.2.2 192)) = b
  rw [one, one, one, one]
theorem lowV_Fd {x : Int} (hx : InA (2 ^ 29) x) : Fd 192 (lowV x 192) := by
  have m := (lowV_mul (n := x) (d := 192) (by decide)).2
  exact ⟨lowV_pos (by decide), ⟨_, m.symm⟩, Nat.le_trans (lowV_le (n := x) (d := 192) (by decide)).1 (by omega)⟩
theorem plcOf_toI (places : List (List IB)) : ((plcOf places).map fun p => p.map (toI 192)) = places := by
  unfold plcOf
  rw [List.map_map]
  refine (List.map_congr_left fun p _ => ?_).trans (List.map_id _)
  show (p.map (frB 192)).map (toI 192) = id p
  rw [List.map_map]
  exact (List.map_congr_left fun b _ => toI_fr b).trans (List.map_id _)
theorem WdQ.scn {head : Hd} {places : List (List IB)} (H : HdS head) (W : WdQ head places) : Scn 192 head (plcOf places) := by
  have mo := H.mo
  refine ⟨⟨by decide, by decide⟩, H.nd, by unfold plcOf; rw [List.length_map]; exact W.len, by have := H.few; omega, by omega, fun i t p ht hp => ?_, fun p hp b hb => ?_⟩
  · unfold plcOf at hp
    rw [List.getElem?_map] at hp
    cases e : places[i]? with
    | none => rw [e] at hp; cases hp
    | some q =>
      rw [e] at hp
      have hp : q.map (frB 192) = p := Option.some.inj hp
      subst hp
      obtain ⟨s1, s2, s3⟩ := W.sh i t q ht e
      rw [List.length_map]
      refine ⟨fun hm => ?_, fun hm nl => ?_, s2.1, by omega⟩
      · have nl := kinds_land (H.so t (List.mem_of_getElem? ht)) hm
        exact ⟨nl, by rw [s1 nl, hm]; rfl⟩
      · rw [s1 nl, hm]; rfl
  · obtain ⟨q, hq, rfl⟩ := List.mem_map.mp hp
    obtain ⟨c, hc, rfl⟩ := List.mem_map.mp hb
    obtain ⟨i, hi, rfl⟩ := List.getElem_of_mem hq
    have hi' : i < head.2.2.2.length := by rw [← W.len]; exact hi
    obtain ⟨_, _, s3⟩ := W.sh i _ _ (List.getElem?_eq_getElem hi') (List.getElem?_eq_getElem hi)
    obtain ⟨d1, d2, d3, d4⟩ := s3 c hc
    exact ⟨lowV_Fd d1, lowV_Fd d2, lowV_Fd d3, lowV_Fd d4⟩
theorem WdQ.bd {head : Hd} {places : List (List IB)} (W : WdQ head places) : ∀ p ∈ places, ∀ b ∈ p, BxN (2 ^ 29) b := fun p hp b hb => by
  obtain ⟨i, hi, rfl⟩ := List.getElem_of_mem hp
  have hi' : i < head.2.2.2.length := by rw [← W.len]; exact hi
  exact (W.sh i _ _ (List.getElem?_eq_getElem hi') (List.getElem?_eq_getElem hi)).2.2 b hb
theorem WdQ.place {head : Hd} {places : List (List IB)} (H : HdS head) (W : WdQ head places) {name : Str} {m : Int} (hn : name ∈ head.2.2.2.map (·.1)) (h0 : 0 ≤ m) (h1 : m < head.2.2.1) :
    m_law_place (head, 192, places) (name, m) = some ((bsOf head (plcOf places) name m).map (toI 192)) := by
  have := (bs_ok (W.scn H) hn h0 h1).2.1 192
  rw [plcOf_toI] at this
  exact this
/-! ### pairs of solids -/
theorem HdS.q {head : Hd} (H : HdS head) : HdQ head := ⟨by have := H.mo; omega, H.nd, by have := H.few; omega⟩
theorem pairsV_mem {head : Hd} (H : HdQ head) {x : Rf × Rf} (h : x ∈ pairsV head) : ∃ p ∈ head.2.2.2, ∃ q ∈ head.2.2.2, p.2.1 = "body" ∧ q.2.1 ∈ [("upright" : Str), "lying", "body"] ∧ x.1.1 = p.1 ∧ x.2.1 = q.1 ∧ x.1.2 = x.2.2 ∧ 0 ≤ x.1.2 ∧ x.1.2 < head.2.2.1 := by
  unfold pairsV at h
  obtain ⟨i, hi, h⟩ := List.mem_flatMap.mp h
  unfold prow at h
  obtain ⟨j, hj, h⟩ := List.mem_flatMap.mp h
  obtain ⟨hj, hh⟩ := List.mem_filter.mp hj
  unfold prs at h
  obtain ⟨m, hm, rfl⟩ := List.mem_map.mp h
  have hm := mem_rangeI hm
  unfold hits at hh
  simp only [Bool.and_eq_true, Bool.or_eq_true, decide_eq_true_eq] at hh
  refine ⟨i.2, enR_mem hi, j.2, enR_mem hj, hh.1, ?_, rfl, rfl, rfl, hm.1, ?_⟩
  · rcases hh.2 with q | q
    · simp only [List.mem_cons, List.not_mem_nil, or_false] at q ⊢
      rcases q with q | q
      · exact .inl q
      · exact .inr (.inl q)
    · simp [q.1]
  · have := H.mo
    revert hm
    cases (i.2.2.2 || j.2.2.2) <;> simp <;> omega
theorem WdQ.place1 {head : Hd} {places : List (List IB)} (H : HdS head) (W : WdQ head places) {t : Thg} {m : Int} (ht : t ∈ head.2.2.2) (nl : t.2.1 ≠ "land") (h0 : 0 ≤ m) (h1 : m < head.2.2.1) : ∃ b, m_law_place (head, 192, places) (t.1, m) = some [b] := by
  have hn : t.1 ∈ head.2.2.2.map (·.1) := List.mem_map.mpr ⟨t, ht, rfl⟩
  have l := (bs_ok (W.scn H) hn h0 h1).2.2.2.2.2 t ht rfl nl
  obtain ⟨b, e⟩ := List.length_eq_one_iff.mp l
  refine ⟨toI 192 b, ?_⟩
  rw [W.place H hn h0 h1, e]; rfl
theorem WdQ.mix {head : Hd} {p q : List (List IB)} (P : WdQ head p) (Q : WdQ head q) (at' : Int) : WdQ head ((rangeI 0 (q.length : Int)).map fun x => if x = at' then q.getD x.toNat [] else p.getD x.toNat []) := by
  refine ⟨by rw [List.length_map, len_rangeI, ← Q.len]; simp, fun i t r ht hr => ?_⟩
  rw [List.getElem?_map] at hr
  cases e : (rangeI 0 (q.length : Int))[i]? with
  | none => rw [e] at hr; cases hr
  | some x =>
    rw [e] at hr
    obtain ⟨rfl, hl⟩ := rangeI_get e
    have hr : (if (i : Int) = at' then q.getD ((i : Int)).toNat [] else p.getD ((i : Int)).toNat []) = r := Option.some.inj hr
    have hq : i < q.length := by omega
    have hp : i < p.length := by rw [P.len, ← Q.len]; exact hq
    rw [Int.toNat_natCast] at hr
    by_cases c : (i : Int) = at'
    · rw [if_pos c, List.getD_eq_getElem?_getD, List.getElem?_eq_getElem hq] at hr
      exact Q.sh i t r ht (by rw [← hr, List.getElem?_eq_getElem hq]; rfl)
    · rw [if_neg c, List.getD_eq_getElem?_getD, List.getElem?_eq_getElem hp] at hr
      exact P.sh i t r ht (by rw [← hr, List.getElem?_eq_getElem hp]; rfl)
theorem ok_s_other {n : Nat} {t : Tape} {head : Hd} {places : List (List IB)} (H : HdS head) (W : WdQ head places) (g : Good n t) (hn : n < 600000000) : Ok (m_law_s_other t (head, 192, places)) fun x => (x.1.1 = head ∧ x.1.2.1 = 192 ∧ WdQ head x.1.2.2) ∧ Good (n + 1010) x.2 := by
  unfold m_law_s_other
  refine (ok_s_world H g (by omega)).bind fun v1 ⟨⟨e1, e2, W1⟩, g1⟩ => ?_
  obtain ⟨⟨h', u', new⟩, t1⟩ := v1
  have e1 : h' = head := e1
  have e2 : u' = 192 := e2
  subst e1 e2
  have W1 : WdQ h' new := W1
  have g1 : Good (n + 1000) t1 := g1
  have nl : new.length ≤ 6 := by rw [W1.len]; exact H.few.2
  refine (ok_draw g1 (by omega) (by show (new.length : Int) < _; omega)).bind fun v2 ⟨_, _, g2⟩ => ?_
  refine (ok_rng1 (P := fun r => r = rangeI 0 (new.length : Int)) (by show CRng (new.length : Int); unfold CRng; omega) rfl).bind fun v3 e3 => ?_
  subst e3
  refine Ok.get (mapR_eq' (fun x => if x = v2.1 then new.getD x.toNat [] else places.getD x.toNat []) _ fun x hx => ?_) (Ok.lt (Ok.get (law_pairs_eq H.q) ?_))
  · obtain ⟨a, b⟩ := mem_rangeI hx
    obtain ⟨i, rfl⟩ := Int.eq_ofNat_of_zero_le a
    have hq : i < new.length := by omega
    have hp : i < places.length := by rw [W.len, ← W1.len]; exact hq
    have e5 : atI new (i : Int) = some (new.getD i []) := by rw [atI_nat (List.getElem?_eq_getElem hq), List.getD_eq_getElem?_getD, List.getElem?_eq_getElem hq]; rfl
    have e6 : atI places (i : Int) = some (places.getD i []) := by rw [atI_nat (List.getElem?_eq_getElem hp), List.getD_eq_getElem?_getD, List.getElem?_eq_getElem hp]; rfl
    show ((cond (decide ((i : Int) = v2.1)) (atI new (i : Int) >>= fun v5 => some v5) (atI places (i : Int) >>= fun v6 => some v6)) >>= fun c7 => some c7) = _
    rw [e5, e6, cond_ite, Int.toNat_natCast]
    by_cases c : (i : Int) = v2.1
    · rw [if_pos c, if_pos c]; rfl
    · rw [if_neg c, if_neg c]; rfl
  have M := W.mix W1 v2.1
  generalize ((rangeI 0 (new.length : Int)).map fun x => if x = v2.1 then new.getD x.toNat [] else places.getD x.toNat []) = mixed at M ⊢
  refine Ok.bind (ok_forFR (fun _ : Unit => True) (fun r : Wld × Tape => r = ((h', 192, new), v2.2)) (pairsV h') () trivial fun x s hx _ => ?_) fun o ho => ?_
  · obtain ⟨p, hp, q, hq, k1, k2, n1, n2, m1, m2, m3⟩ := pairsV_mem H.q hx
    obtain ⟨⟨a, b⟩, c, d⟩ := x
    have n1 : a = p.1 := n1
    have n2 : c = q.1 := n2
    subst n1 n2
    have m1 : d = b := m1.symm
    have m2 : 0 ≤ b := m2
    have m3 : b < h'.2.2.1 := m3
    subst m1
    obtain ⟨b1, eb1⟩ := M.place1 H (m := d) hp (by rw [k1]; decide) m2 m3
    obtain ⟨b2, eb2⟩ := M.place1 H (m := d) hq (by intro z; rw [z] at k2; revert k2; decide) m2 m3
    refine Ok.get eb1 (Ok.get eb2 (Ok.get lap_one (Ok.cond (fun _ => ?_) (fun _ => ?_))))
    · exact Ok.ret (.inr ⟨_, rfl, rfl⟩)
    · exact Ok.ret (.inl ⟨(), rfl, trivial⟩)
  · rcases ho with ⟨s', rfl, _⟩ | ⟨r, rfl, rfl⟩
    · refine (ok_draw g2 (by omega) (by decide)).bind fun v16 ⟨_, _, g16⟩ => Ok.ret ⟨?_, g16.mono (by omega)⟩
      cases decide (0 < v16.1) with
      | true => exact ⟨rfl, rfl, M⟩
      | false => exact ⟨rfl, rfl, W1⟩
    · exact Ok.ret ⟨⟨rfl, rfl, W1⟩, g2.mono (by omega)⟩
end Ty

set_option maxHeartbeats 4000000
/-! walks with a count, turns with their number -/
namespace Ty
open PySem L2
theorem ok_forFI {α S ρ : Type} (I : Nat → S → Prop) {f : α → S → Option (Fl S ρ)} : ∀ (xs : List α) (n : Nat) (s : S), I n s → (∀ j x s, xs[j]? = some x → I (n + j) s → Ok (f x s) (fun o => ∃ s', o = .nx s' ∧ I (n + j + 1) s')) → Ok (forF xs s f) (fun o => ∃ s', o = .nx s' ∧ I (n + xs.length) s')
  | [], n, s, h, _ => ⟨_, rfl, s, rfl, h⟩
  | x :: xs, n, s, h, hf => by
    obtain ⟨o, e, s', rfl, h'⟩ := hf 0 x s rfl h
    rw [forF, e]
    have := ok_forFI I xs (n + 1) s' h' fun j y t hy ht => by
      have := hf (j + 1) y t (by simpa using hy) (by rw [show n + (j + 1) = n + 1 + j by omega]; exact ht)
      rw [show n + (j + 1) + 1 = n + 1 + j + 1 by omega] at this
      exact this
    rw [List.length_cons, show n + (xs.length + 1) = n + 1 + xs.length by omega]
    exact this
theorem ok_turns3 {n : Nat} {t : Tape} {many : Int} (g : Good n t) (hn : n < 900000000) (h0 : 0 ≤ many) (h1 : many ≤ 1000000) : Ok (m_law_turns t many) fun x => (∀ k ∈ x.1, 0 ≤ k ∧ k < many) ∧ x.1.length ≤ many.toNat ∧ Good (n + many.toNat + 1) x.2 := by
  unfold m_law_turns
  have hc : CRng many := by unfold CRng; omega
  refine (ok_rng1 (P := fun r => r = rangeI 0 many) hc rfl).bind fun v1 e1 => (ok_rng1 (P := fun r => r = rangeI 0 many) hc rfl).bind fun v2 e2 => ?_
  subst e1 e2
  refine (ok_forS (fun i (s : List Int × List Int × Tape) => s.1.length + i = many.toNat ∧ (∀ k ∈ s.1, 0 ≤ k ∧ k < many) ∧ (∀ k ∈ s.2.1, 0 ≤ k ∧ k < many) ∧ s.2.1.length = i ∧ Good (n + i) s.2.2) (rangeI 0 many) 0 (rangeI 0 many, [], t) ⟨by show (rangeI 0 many).length + 0 = _; rw [len_rangeI]; simp, fun k hk => by have := mem_rangeI hk; exact this, (fun k hk => nomatch hk), rfl, g⟩ ?_).bind ?_
  · rintro i x ⟨rest, turns, t'⟩ _ _ hi ⟨a, b, c, d, e⟩
    rw [len_rangeI] at hi
    have a' : rest.length + i = many.toNat := a
    have hl : 0 < rest.length := by omega
    refine (ok_draw e (by omega) (by show (rest.length : Int) < _; omega)).bind fun v ⟨p1, p2, p3⟩ => ?_
    have p2 : v.1 < max (rest.length : Int) 1 := p2
    refine (ok_popAt (P := fun y => (0 ≤ y.1 ∧ y.1 < many) ∧ y.2.length + 1 = rest.length ∧ ∀ k ∈ y.2, 0 ≤ k ∧ k < many) (by show rest.length ≤ _; omega) p1 (by show v.1 < (rest.length : Int); omega) fun y hy => ⟨b y hy, ?_, fun k hk => b k (List.mem_of_mem_eraseIdx hk)⟩).bind fun y ⟨q1, q2, q3⟩ => ?_
    · show (rest.eraseIdx v.1.toNat).length + 1 = rest.length
      rw [List.length_eraseIdx]
      split <;> omega
    · have d' : turns.length = i := d
      refine (ok_push (P := fun z => z.2 = turns ++ [y.1]) (by show turns.length < _; omega) rfl).bind fun z hz => Ok.ret ⟨?_, q3, ?_, ?_, p3⟩
      · show y.2.length + (i + 1) = many.toNat; omega
      · intro k hk
        have hk : k ∈ z.2 := hk
        rw [hz] at hk
        rcases List.mem_append.mp hk with h | h
        · exact c k h
        · rw [List.mem_singleton.mp h]; exact q1
      · show z.2.length = i + 1
        rw [hz]; simp [d']
  · rintro ⟨rest, turns, t'⟩ ⟨a, b, c, d, e⟩
    rw [len_rangeI] at d
    rw [len_rangeI, show (many - 0).toNat = many.toNat by simp] at e
    have e : Good (n + many.toNat) t' := by simpa using e
    refine (ok_draw e (by omega) (by decide)).bind fun v ⟨p1, p2, p3⟩ => ?_
    refine (ok_atI (P := fun _ => True) p1 (by show v.1 < 3; have p2 : v.1 < max 3 1 := p2; omega) fun _ _ => trivial).bind fun w _ => Ok.ret ⟨fun k hk => c k (mem_cutR hk), ?_, p3⟩
    have d : turns.length = 0 + (many - 0).toNat := d
    have := (List.Sublist.trans (List.take_sublist _ _) (List.drop_sublist _ _) : (cutR turns none (some w)).Sublist turns).length_le
    show (cutR turns none (some w)).length ≤ _
    omega
end Ty

set_option maxHeartbeats 4000000
/-! fractions of one denominator, told in lowest terms; walks that look for one: plain Lean -/
namespace Ty
open PySem L2
/-- in lowest terms, of parts of D -/
def Lw (D : Int) (f : P2) : Prop := 0 < f.2 ∧ f.2 ∣ D ∧ Nat.Coprime f.1.natAbs f.2.natAbs
/-- .. and of at most k bits -/
def LB (D : Int) (k : Nat) (f : P2) : Prop := Lw D f ∧ FBd k f
theorem LB.mono {D : Int} {k l : Nat} {f : P2} (h : LB D k f) (e : k ≤ l) : LB D l f := ⟨h.1, h.2.mono e⟩
theorem low_dvd {n m D : Int} (hm : 0 < m) (h : m ∣ n * D) : (lowV n m).2 ∣ D := by
  obtain ⟨m1, m2⟩ := lowV_mul (n := n) (d := m) (by omega)
  have c := lowV_cop (n := n) (d := m) (by omega)
  have s0 : sgR n m ≠ 0 := fun z => by rw [z, Int.mul_zero] at m2; omega
  have h' : (lowV n m).2 * sgR n m ∣ ((lowV n m).1 * D) * sgR n m := by
    rw [m2, show (lowV n m).1 * D * sgR n m = ((lowV n m).1 * sgR n m) * D by grind, m1]; exact h
  have h2 : (lowV n m).2 ∣ (lowV n m).1 * D := Int.dvd_of_mul_dvd_mul_right s0 h'
  have h3 : (lowV n m).2.natAbs ∣ (lowV n m).1.natAbs * D.natAbs := by
    rw [← Int.natAbs_mul]; exact Int.natAbs_dvd_natAbs.mpr h2
  exact Int.natAbs_dvd_natAbs.mp (c.symm.dvd_of_dvd_mul_left h3)
theorem Lw.op {D : Int} {p q : P2} (hp : Lw D p) (hq : Lw D q) (n : Int) (hn : n = p.1 * q.2 + q.1 * p.2 ∨ n = p.1 * q.2 - q.1 * p.2) : Lw D (lowV n (p.2 * q.2)) := by
  have m0 : 0 < p.2 * q.2 := Int.mul_pos hp.1 hq.1
  refine ⟨lowV_pos (by omega), low_dvd m0 ?_, lowV_cop (by omega)⟩
  obtain ⟨a, ha⟩ := hp.2.1
  obtain ⟨b, hb⟩ := hq.2.1
  rcases hn with rfl | rfl
  · refine ⟨p.1 * a + q.1 * b, ?_⟩
    rw [Int.add_mul, show p.1 * q.2 * D = p.1 * q.2 * (p.2 * a) by rw [← ha], show q.1 * p.2 * D = q.1 * p.2 * (q.2 * b) by rw [← hb]]
    grind
  · refine ⟨p.1 * a - q.1 * b, ?_⟩
    rw [Int.sub_mul, show p.1 * q.2 * D = p.1 * q.2 * (p.2 * a) by rw [← ha], show q.1 * p.2 * D = q.1 * p.2 * (q.2 * b) by rw [← hb]]
    grind
theorem Lw.add {D : Int} {p q : P2} (hp : Lw D p) (hq : Lw D q) : Lw D (addV p q) := hp.op hq _ (.inl rfl)
theorem Lw.sub {D : Int} {p q : P2} (hp : Lw D p) (hq : Lw D q) : Lw D (subV p q) := hp.op hq _ (.inr rfl)
theorem ok_lplus {D : Int} {k l : Nat} {p q : P2} {P : P2 → Prop} (hp : LB D k p) (hq : LB D l q) (hk : k + l ≤ 239) (h : LB D (k + l + 1) (addV p q) → P (addV p q)) : Ok (m_law_plus p q) P := ⟨_, law_plus_eq2 hp.2 hq.2 (by omega), h ⟨hp.1.add hq.1, add_FBd hp.2 hq.2⟩⟩
theorem ok_lminus {D : Int} {k l : Nat} {p q : P2} {P : P2 → Prop} (hp : LB D k p) (hq : LB D l q) (hk : k + l ≤ 239) (h : LB D (k + l + 1) (subV p q) → P (subV p q)) : Ok (m_law_minus p q) P := ⟨_, law_minus_eq2 hp.2 hq.2 (by omega), h ⟨hp.1.sub hq.1, sub_FBd hp.2 hq.2⟩⟩
/-! ### as whole numbers of one unit -/
section
variable {unit : Int} {p q p' q' : P2}
theorem lt_wI (hu : 0 < unit) (h1 : 0 < p.2) (h2 : 0 < q.2) (d1 : p.2 ∣ unit) (d2 : q.2 ∣ unit) : p.1 * q.2 < q.1 * p.2 ↔ wI unit p < wI unit q := by
  have e1 := wI_mul d1
  have e2 := wI_mul d2
  have m : 0 < p.2 * q.2 := Int.mul_pos h1 h2
  have a1 : wI unit p * (p.2 * q.2) = (p.1 * q.2) * unit := by rw [← Int.mul_assoc, e1]; grind
  have a2 : wI unit q * (p.2 * q.2) = (q.1 * p.2) * unit := by rw [show wI unit q * (p.2 * q.2) = (wI unit q * q.2) * p.2 by grind, e2]; grind
  constructor
  · intro h
    have : wI unit p * (p.2 * q.2) < wI unit q * (p.2 * q.2) := by rw [a1, a2]; exact Int.mul_lt_mul_of_pos_right h hu
    exact Int.lt_of_mul_lt_mul_right this (by omega)
  · intro h
    have : wI unit p * (p.2 * q.2) < wI unit q * (p.2 * q.2) := Int.mul_lt_mul_of_pos_right h m
    rw [a1, a2] at this
    exact Int.lt_of_mul_lt_mul_right this (by omega)
theorem le_wI (hu : 0 < unit) (h1 : 0 < p.2) (h2 : 0 < q.2) (d1 : p.2 ∣ unit) (d2 : q.2 ∣ unit) : p.1 * q.2 ≤ q.1 * p.2 ↔ wI unit p ≤ wI unit q := by
  have := lt_wI hu h2 h1 d2 d1
  omega
theorem eq_wI (hu : 0 < unit) (h1 : 0 < p.2) (h2 : 0 < q.2) (d1 : p.2 ∣ unit) (d2 : q.2 ∣ unit) (c1 : Nat.Coprime p.1.natAbs p.2.natAbs) (c2 : Nat.Coprime q.1.natAbs q.2.natAbs) : (p.1 = q.1 ∧ p.2 = q.2) ↔ wI unit p = wI unit q := by
  constructor
  · rintro ⟨a, b⟩
    rw [show p = q from Prod.ext a b]
  · intro h
    have l1 := le_wI hu h1 h2 d1 d2
    have l2 := le_wI hu h2 h1 d2 d1
    have : p.1 * q.2 = q.1 * p.2 := by omega
    exact low_uniq h1 h2 c1 c2 this
theorem sub_wI (hu : 0 < unit) (h1 : 0 < p.2) (h2 : 0 < q.2) (h3 : 0 < p'.2) (h4 : 0 < q'.2) (d1 : p.2 ∣ unit) (d2 : q.2 ∣ unit) (d3 : p'.2 ∣ unit) (d4 : q'.2 ∣ unit) : subV p q = subV p' q' ↔ wI unit p - wI unit q = wI unit p' - wI unit q' := by
  have m : 0 < p.2 * q.2 := Int.mul_pos h1 h2
  have m' : 0 < p'.2 * q'.2 := Int.mul_pos h3 h4
  have e1 := wI_mul d1
  have e2 := wI_mul d2
  have e3 := wI_mul d3
  have e4 := wI_mul d4
  have a1 : (p.1 * q.2 - q.1 * p.2) * unit = (wI unit p - wI unit q) * (p.2 * q.2) := by grind
  have a2 : (p'.1 * q'.2 - q'.1 * p'.2) * unit = (wI unit p' - wI unit q') * (p'.2 * q'.2) := by grind
  have key : (p.1 * q.2 - q.1 * p.2) * (p'.2 * q'.2) = (p'.1 * q'.2 - q'.1 * p'.2) * (p.2 * q.2) ↔ wI unit p - wI unit q = wI unit p' - wI unit q' := by
    have b1 : ((p.1 * q.2 - q.1 * p.2) * (p'.2 * q'.2)) * unit = (wI unit p - wI unit q) * ((p.2 * q.2) * (p'.2 * q'.2)) := by
      rw [show ((p.1 * q.2 - q.1 * p.2) * (p'.2 * q'.2)) * unit = ((p.1 * q.2 - q.1 * p.2) * unit) * (p'.2 * q'.2) by grind, a1]; grind
    have b2 : ((p'.1 * q'.2 - q'.1 * p'.2) * (p.2 * q.2)) * unit = (wI unit p' - wI unit q') * ((p.2 * q.2) * (p'.2 * q'.2)) := by
      rw [show ((p'.1 * q'.2 - q'.1 * p'.2) * (p.2 * q.2)) * unit = ((p'.1 * q'.2 - q'.1 * p'.2) * unit) * (p.2 * q.2) by grind, a2]; grind
    have mm : (p.2 * q.2) * (p'.2 * q'.2) ≠ 0 := Int.mul_ne_zero (by omega) (by omega)
    constructor
    · intro h
      rw [h, b2] at b1
      exact (Int.eq_of_mul_eq_mul_right mm b1).symm
    · intro h
      rw [h, ← b2] at b1
      exact Int.eq_of_mul_eq_mul_right (by omega) b1
  unfold subV
  exact ⟨fun h => key.mp (lowV_cross (by omega) (by omega) h), fun h => lowV_eq (by omega) (by omega) (key.mpr h)⟩
end
/-! ### walks that look for one -/
theorem forF_find {α ρ : Type} {f : α → Unit → Option (Fl Unit ρ)} (g : α → Option ρ) : ∀ (xs : List α), (∀ x ∈ xs, f x () = some (match g x with | some r => .rt r | none => .nx ())) → forF xs () f = some (match xs.findSome? g with | some r => .rt r | none => .nx ())
  | [], _ => rfl
  | x :: xs, h => by
    have h0 := h x (List.mem_cons_self ..)
    rw [List.findSome?_cons]
    cases e : g x with
    | some r => rw [e] at h0; exact forF_ret h0
    | none =>
      rw [e] at h0
      rw [forF_next h0 (.inl rfl)]
      exact forF_find g xs fun y hy => h y (List.mem_cons_of_mem _ hy)
theorem eqP_sizes {a b c d a' b' c' d' : Int} : U.eqP (.tup [.tup [.int a, .int b], .tup [.int c, .int d]]) (.tup [.tup [.int a', .int b'], .tup [.int c', .int d']]) = some ((decide (a = a') && decide (b = b')) && (decide (c = c') && decide (d = d'))) := by
  show (some (PyData.tuple [.tuple [.int a, .int b], .tuple [.int c, .int d]]) >>= fun x => some (PyData.tuple [.tuple [.int a', .int b'], .tuple [.int c', .int d']]) >>= fun y => if SeqAt.shaped x = true ∧ SeqAt.shaped y = true then some (PyData.eqv x y) else none) = _
  rw [obind_some, obind_some, if_pos ⟨rfl, rfl⟩]
  show some (((a == a') && ((b == b') && true)) && (((c == c') && ((d == d') && true)) && true)) = _
  simp only [Bool.and_true]; rfl
end Ty

set_option maxHeartbeats 0
namespace K02
open PySem PySem.Spec PyProof.Rows L2 Ty
structure Txt (w : World) (K : Frag) (mg : Str → Option Value) : Prop where
  abs_ : mg "abs" = none
  bool_ : mg "bool" = none
  enumerate_ : mg "enumerate" = none
  int_ : mg "int" = none
  isinstance_ : mg "isinstance" = none
  len_ : mg "len" = none
  list_ : mg "list" = none
  max_ : mg "max" = none
  min_ : mg "min" = none
  range_ : mg "range" = none
  set_ : mg "set" = none
  sorted_ : mg "sorted" = none
  str_ : mg "str" = none
  tuple_ : mg "tuple" = none
  c_BAR_SORTS : ∃ (ad : Addr) (o : Obj), mg "BAR_SORTS" = some (.ref ad) ∧ (∀ W, SqT K W ad ((["upright", "lying"] : List Str).map V.str)) ∧ (K.lookup ad = some o ∧ o.cls = .type "tuple" ∧ o.dict = none)
section
variable {P : Program} {w : World} {K : Frag} {mg : Str → Option Value} {base : Heap}
theorem S_longer : FnScope ["head", "moments"] ["head", "moments"] (defScope st_longer) := ⟨rfl, rfl, rfl, by decide +kernel, rfl, by decide +kernel, by decide +kernel⟩
theorem ok_longer {fa : Addr} {fd : FuncData} (T : Txt w K mg) (F : FunD K "longer" "longer" (defArgs st_longer) (defBody st_longer) (defScope st_longer) [] [] fa fd) (hm : mg "longer" = some (.ref fa)) : FnP P w K mg base "longer" 1 ["head", "moments"] (spP K (tcC (cTup (tcC cInt (tcC cInt (tcC cInt (tc1 (cSeq (cTup (tcC cStr (tcC cStr (tc1 cBool)))))))))) (tc1 cInt)) (fun x => m_longer x.1 x.2) (cTup (tcC cInt (tcC cInt (tcC cInt (tc1 (cSeq (cTup (tcC cStr (tcC cStr (tc1 cBool))))))))))) := by
  refine fnp_of hm F (fn_top (fun _ => False) (fun _ h => h.elim) F S_longer (penC pen1) (fun x => [.im (cTup (tcC cInt (tcC cInt (tcC cInt (tc1 (cSeq (cTup (tcC cStr (tcC cStr (tc1 cBool)))))))))) x.1, .im cInt x.2]) fun cdv A outer s H E hr C hB x => ?_) (fun _ _ _ _ _ _ us hl => match us, hl with | [_, _], _ => rfl)
  obtain ⟨a_head, a_moments⟩ := x
  show GK _ C _ _ (m_longer a_head a_moments) _
  unfold m_longer
  exact (gk_one (gs_ret (ex_tup (ea_cons (ex_ixT (i := 0) nthZ (ex_var 0 (ea_cons (ex_ixT (i := 1) (nthS nthZ) (ex_var 0 (ea_cons (ex_var 1 (ea_one (ex_ixT (i := 3) (nthS (nthS (nthS nthL))) (ex_var 0 (rfl)))))))))))))))
theorem S_names_of : FnScope ["head", "thing"] ["head"] (defScope st_names_of) := ⟨rfl, rfl, rfl, by decide +kernel, rfl, by decide +kernel, by decide +kernel⟩
theorem ok_names_of {fa : Addr} {fd : FuncData} (T : Txt w K mg) (F : FunD K "names_of" "names_of" (defArgs st_names_of) (defBody st_names_of) (defScope st_names_of) [] [] fa fd) (hm : mg "names_of" = some (.ref fa)) : FnP P w K mg base "names_of" 1 ["head"] (spP K (tc1 (cTup (tcC cInt (tcC cInt (tcC cInt (tc1 (cSeq (cTup (tcC cStr (tcC cStr (tc1 cBool))))))))))) (fun x => m_names_of x) (cLst cStr)) := by
  refine fnp_of hm F (fn_top (fun _ => False) (fun _ h => h.elim) F S_names_of pen1 (fun x => [.im (cTup (tcC cInt (tcC cInt (tcC cInt (tc1 (cSeq (cTup (tcC cStr (tcC cStr (tc1 cBool)))))))))) x, .no]) fun cdv A outer s H E hr C hB a_head => ?_) (fun _ _ _ _ _ _ us hl => match us, hl with | [_], _ => rfl)
  show GK _ C _ _ (m_names_of a_head) _
  unfold m_names_of
  exact (gk_one (gs_ret (ex_froz (ef_lc rfl S_names_of.nd (lc_map (c := (cTup (tcC cStr (tcC cStr (tc1 cBool))))) (d := cStr) (ws := [1]) (up := fun Γ (x : (Str × Str × Bool)) => (Γ.set 1 (.im (cTup (tcC cStr (tcC cStr (tc1 cBool)))) x))) (blkOk_by (own := [("thing", 1)]) (by kernel_rfl)) (fun C' sh H Cc cl fp => (ag_name 1 S_names_of.nd)) (ei_seq (ex_ixT (i := 3) (nthS (nthS (nthS nthL))) (ex_var 0 (⟨_, _, rfl, fun ys2 => rfl, fun C' sh H Cc cl fp x1 => ex_ixT (i := 0) nthZ (ex_var 1 (⟨rfl, wk_refl⟩))⟩)))))))))
theorem S_number_of : FnScope ["head", "name"] ["head", "name"] (defScope st_number_of) := ⟨rfl, rfl, rfl, by decide +kernel, rfl, by decide +kernel, by decide +kernel⟩
theorem ok_number_of {fa : Addr} {fd : FuncData} (T : Txt w K mg) (F : FunD K "number_of" "number_of" (defArgs st_number_of) (defBody st_number_of) (defScope st_number_of) [] [] fa fd) (hm : mg "number_of" = some (.ref fa)) (F_names_of : FnP P w K mg base "names_of" (1) ["head"] (spP K (tc1 (cTup (tcC cInt (tcC cInt (tcC cInt (tc1 (cSeq (cTup (tcC cStr (tcC cStr (tc1 cBool))))))))))) (fun x => m_names_of x) (cLst cStr))) : FnP P w K mg base "number_of" 2 ["head", "name"] (spP K (tcC (cTup (tcC cInt (tcC cInt (tcC cInt (tc1 (cSeq (cTup (tcC cStr (tcC cStr (tc1 cBool)))))))))) (tc1 cStr)) (fun x => m_number_of x.1 x.2) cInt) := by
  refine fnp_of hm F (fn_top (fun _ => False) (fun _ h => h.elim) F S_number_of (penC pen1) (fun x => [.im (cTup (tcC cInt (tcC cInt (tcC cInt (tc1 (cSeq (cTup (tcC cStr (tcC cStr (tc1 cBool)))))))))) x.1, .im cStr x.2]) fun cdv A outer s H E hr C hB x => ?_) (fun _ _ _ _ _ _ us hl => match us, hl with | [_, _], _ => rfl)
  obtain ⟨a_head, a_name⟩ := x
  show GK _ C _ _ (m_number_of a_head a_name) _
  unfold m_number_of
  exact (gk_one (gs_ret (ex_idxL flatS (ex_call F_names_of (hr.mono (by decide)) (ea_one (ex_var 0 (⟨_, rfl, fun v1 => ex_var 1 (⟨_, rfl, fun v2 => rfl⟩)⟩)))))))
theorem S_is_bar : FnScope ["sort"] ["sort"] (defScope st_is_bar) := ⟨rfl, rfl, rfl, by decide +kernel, rfl, by decide +kernel, by decide +kernel⟩
theorem ok_is_bar {fa : Addr} {fd : FuncData} (T : Txt w K mg) (F : FunD K "is_bar" "is_bar" (defArgs st_is_bar) (defBody st_is_bar) (defScope st_is_bar) [] [] fa fd) (hm : mg "is_bar" = some (.ref fa)) : FnP P w K mg base "is_bar" 1 ["sort"] (spP K (tc1 cStr) (fun x => m_is_bar x) cBool) := by
  obtain ⟨ad_BAR_SORTS, o_BAR_SORTS, g_BAR_SORTS, q_BAR_SORTS, w_BAR_SORTS⟩ := T.c_BAR_SORTS
  refine fnp_of hm F (fn_top (fun _ => False) (fun _ h => h.elim) F S_is_bar pen1 (fun x => [.im cStr x]) fun cdv A outer s H E hr C hB a_sort => ?_) (fun _ _ _ _ _ _ us hl => match us, hl with | [_], _ => rfl)
  show GK _ C _ _ (m_is_bar a_sort) _
  unfold m_is_bar
  exact (gk_one (gs_ret (ex_cmp (o_inS flatS) (ex_var 0 (ex_glob (c := (cSeq cStr)) (x := (["upright", "lying"] : List Str)) g_BAR_SORTS (show RelV (V.ref ad_BAR_SORTS) (Value.ref ad_BAR_SORTS) from rfl) (fun _ => cStrs (q_BAR_SORTS _)) (rfl))))))
theorem S_region_of : FnScope ["head", "placing", "ref", "name", "moment", "number"] ["head", "placing", "ref"] (defScope st_region_of) := ⟨rfl, rfl, rfl, by decide +kernel, rfl, by decide +kernel, by decide +kernel⟩
theorem ok_region_of {fa : Addr} {fd : FuncData} (T : Txt w K mg) (F : FunD K "region_of" "region_of" (defArgs st_region_of) (defBody st_region_of) (defScope st_region_of) [] [] fa fd) (hm : mg "region_of" = some (.ref fa)) (F_number_of : FnP P w K mg base "number_of" (2) ["head", "name"] (spP K (tcC (cTup (tcC cInt (tcC cInt (tcC cInt (tc1 (cSeq (cTup (tcC cStr (tcC cStr (tc1 cBool)))))))))) (tc1 cStr)) (fun x => m_number_of x.1 x.2) cInt)) : FnP P w K mg base "region_of" 3 ["head", "placing", "ref"] (spP K (tcC (cTup (tcC cInt (tcC cInt (tcC cInt (tc1 (cSeq (cTup (tcC cStr (tcC cStr (tc1 cBool)))))))))) (tcC (cSeq (cSeq (cTup (tcC (cTup (tcC cInt (tc1 cInt))) (tcC (cTup (tcC cInt (tc1 cInt))) (tcC (cTup (tcC cInt (tc1 cInt))) (tc1 (cTup (tcC cInt (tc1 cInt)))))))))) (tc1 (cTup (tcC cStr (tc1 cInt)))))) (fun x => m_region_of x.1 x.2.1 x.2.2) (cSeq (cTup (tcC (cTup (tcC cInt (tc1 cInt))) (tcC (cTup (tcC cInt (tc1 cInt))) (tcC (cTup (tcC cInt (tc1 cInt))) (tc1 (cTup (tcC cInt (tc1 cInt)))))))))) := by
  refine fnp_of hm F (fn_top (fun _ => False) (fun _ h => h.elim) F S_region_of (penC (penC pen1)) (fun x => [.im (cTup (tcC cInt (tcC cInt (tcC cInt (tc1 (cSeq (cTup (tcC cStr (tcC cStr (tc1 cBool)))))))))) x.1, .im (cSeq (cSeq (cTup (tcC (cTup (tcC cInt (tc1 cInt))) (tcC (cTup (tcC cInt (tc1 cInt))) (tcC (cTup (tcC cInt (tc1 cInt))) (tc1 (cTup (tcC cInt (tc1 cInt)))))))))) x.2.1, .im (cTup (tcC cStr (tc1 cInt))) x.2.2, .no, .no, .no]) fun cdv A outer s H E hr C hB x => ?_) (fun _ _ _ _ _ _ us hl => match us, hl with | [_, _, _], _ => rfl)
  obtain ⟨a_head, a_placing, a_ref⟩ := x
  show GK _ C _ _ (m_region_of a_head a_placing a_ref) _
  unfold m_region_of
  exact (gk_cons (gs_asg (ag_tup rfl (ags_cons (ag_name 3 S_region_of.nd) (ags_one (ag_name 4 S_region_of.nd)))) (ex_var 2 (gk_cons (gs_set 5 (ex_call F_number_of (hr.mono (by decide)) (ea_cons (ex_var 0 (ea_one (ex_var 3 (⟨_, rfl, fun v1 => gk_cons (gs_ifR (et_val (ex_ixT (i := 2) (nthS (nthS nthL)) (ex_ixS (ex_ixT (i := 3) (nthS (nthS (nthS nthL))) (ex_var 0 (ex_var 5 (⟨_, rfl, fun v2 => ⟨_, _, rfl, gk_one (gs_ret (ex_tupS (el_cons (ex_ixS (ex_ixS (ex_var 1 (ex_var 5 (⟨_, rfl, fun v3 => ex_var 4 (⟨_, rfl, fun v4 => el_nil (rfl)⟩)⟩)))))))), gk_one (gs_ret (ex_ixS (ex_var 1 (ex_var 5 (⟨_, rfl, fun v5 => rfl⟩)))))⟩⟩))))))))⟩)))))) S_region_of.nd)))))
theorem S_box_of : FnScope ["head", "placing", "ref"] ["head", "placing", "ref"] (defScope st_box_of) := ⟨rfl, rfl, rfl, by decide +kernel, rfl, by decide +kernel, by decide +kernel⟩
theorem ok_box_of {fa : Addr} {fd : FuncData} (T : Txt w K mg) (F : FunD K "box_of" "box_of" (defArgs st_box_of) (defBody st_box_of) (defScope st_box_of) [] [] fa fd) (hm : mg "box_of" = some (.ref fa)) (F_region_of : FnP P w K mg base "region_of" (3) ["head", "placing", "ref"] (spP K (tcC (cTup (tcC cInt (tcC cInt (tcC cInt (tc1 (cSeq (cTup (tcC cStr (tcC cStr (tc1 cBool)))))))))) (tcC (cSeq (cSeq (cTup (tcC (cTup (tcC cInt (tc1 cInt))) (tcC (cTup (tcC cInt (tc1 cInt))) (tcC (cTup (tcC cInt (tc1 cInt))) (tc1 (cTup (tcC cInt (tc1 cInt)))))))))) (tc1 (cTup (tcC cStr (tc1 cInt)))))) (fun x => m_region_of x.1 x.2.1 x.2.2) (cSeq (cTup (tcC (cTup (tcC cInt (tc1 cInt))) (tcC (cTup (tcC cInt (tc1 cInt))) (tcC (cTup (tcC cInt (tc1 cInt))) (tc1 (cTup (tcC cInt (tc1 cInt))))))))))) : FnP P w K mg base "box_of" 4 ["head", "placing", "ref"] (spP K (tcC (cTup (tcC cInt (tcC cInt (tcC cInt (tc1 (cSeq (cTup (tcC cStr (tcC cStr (tc1 cBool)))))))))) (tcC (cSeq (cSeq (cTup (tcC (cTup (tcC cInt (tc1 cInt))) (tcC (cTup (tcC cInt (tc1 cInt))) (tcC (cTup (tcC cInt (tc1 cInt))) (tc1 (cTup (tcC cInt (tc1 cInt)))))))))) (tc1 (cTup (tcC cStr (tc1 cInt)))))) (fun x => m_box_of x.1 x.2.1 x.2.2) (cTup (tcC (cTup (tcC cInt (tc1 cInt))) (tcC (cTup (tcC cInt (tc1 cInt))) (tcC (cTup (tcC cInt (tc1 cInt))) (tc1 (cTup (tcC cInt (tc1 cInt))))))))) := by
  refine fnp_of hm F (fn_top (fun _ => False) (fun _ h => h.elim) F S_box_of (penC (penC pen1)) (fun x => [.im (cTup (tcC cInt (tcC cInt (tcC cInt (tc1 (cSeq (cTup (tcC cStr (tcC cStr (tc1 cBool)))))))))) x.1, .im (cSeq (cSeq (cTup (tcC (cTup (tcC cInt (tc1 cInt))) (tcC (cTup (tcC cInt (tc1 cInt))) (tcC (cTup (tcC cInt (tc1 cInt))) (tc1 (cTup (tcC cInt (tc1 cInt)))))))))) x.2.1, .im (cTup (tcC cStr (tc1 cInt))) x.2.2]) fun cdv A outer s H E hr C hB x => ?_) (fun _ _ _ _ _ _ us hl => match us, hl with | [_, _, _], _ => rfl)
  obtain ⟨a_head, a_placing, a_ref⟩ := x
  show GK _ C _ _ (m_box_of a_head a_placing a_ref) _
  unfold m_box_of
  exact (gk_one (gs_ret (ex_ixS (ex_call F_region_of (hr.mono (by decide)) (ea_cons (ex_var 0 (ea_cons (ex_var 1 (ea_one (ex_var 2 (⟨_, rfl, fun v1 => ex_int (⟨_, rfl, fun v2 => rfl⟩)⟩)))))))))))
theorem S_count_of_moments : FnScope ["head", "thing", "other"] ["head", "thing", "other"] (defScope st_count_of_moments) := ⟨rfl, rfl, rfl, by decide +kernel, rfl, by decide +kernel, by decide +kernel⟩
theorem ok_count_of_moments {fa : Addr} {fd : FuncData} (T : Txt w K mg) (F : FunD K "count_of_moments" "count_of_moments" (defArgs st_count_of_moments) (defBody st_count_of_moments) (defScope st_count_of_moments) [] [] fa fd) (hm : mg "count_of_moments" = some (.ref fa)) : FnP P w K mg base "count_of_moments" 1 ["head", "thing", "other"] (spP K (tcC (cTup (tcC cInt (tcC cInt (tcC cInt (tc1 (cSeq (cTup (tcC cStr (tcC cStr (tc1 cBool)))))))))) (tcC (cTup (tcC cStr (tcC cStr (tc1 cBool)))) (tc1 (cTup (tcC cStr (tcC cStr (tc1 cBool))))))) (fun x => m_count_of_moments x.1 x.2.1 x.2.2) cInt) := by
  refine fnp_of hm F (fn_top (fun _ => False) (fun _ h => h.elim) F S_count_of_moments (penC (penC pen1)) (fun x => [.im (cTup (tcC cInt (tcC cInt (tcC cInt (tc1 (cSeq (cTup (tcC cStr (tcC cStr (tc1 cBool)))))))))) x.1, .im (cTup (tcC cStr (tcC cStr (tc1 cBool)))) x.2.1, .im (cTup (tcC cStr (tcC cStr (tc1 cBool)))) x.2.2]) fun cdv A outer s H E hr C hB x => ?_) (fun _ _ _ _ _ _ us hl => match us, hl with | [_, _, _], _ => rfl)
  obtain ⟨a_head, a_thing, a_other⟩ := x
  show GK _ C _ _ (m_count_of_moments a_head a_thing a_other) _
  unfold m_count_of_moments
  exact (gk_cons (gs_ifR (et_w (ew_orT (et_val (ex_ixT (i := 2) (nthS (nthS nthL)) (ex_var 1 (⟨a_other.2.2, ew_or1 (et_val (ex_ixT (i := 2) (nthS (nthS nthL)) (ex_var 2 (fin wk_refl)))), ⟨_, _, rfl, gk_one (gs_ret (ex_ixT (i := 2) (nthS (nthS nthZ)) (ex_var 0 (rfl)))), gk_one (gs_ret (ex_int (rfl)))⟩⟩))))))))
theorem S_hindered_by : FnScope ["head", "body", "found", "number", "thing"] ["head", "body"] (defScope st_hindered_by) := ⟨rfl, rfl, rfl, by decide +kernel, rfl, by decide +kernel, by decide +kernel⟩
theorem ok_hindered_by {fa : Addr} {fd : FuncData} (T : Txt w K mg) (F : FunD K "hindered_by" "hindered_by" (defArgs st_hindered_by) (defBody st_hindered_by) (defScope st_hindered_by) [] [] fa fd) (hm : mg "hindered_by" = some (.ref fa)) (F_is_bar : FnP P w K mg base "is_bar" (1) ["sort"] (spP K (tc1 cStr) (fun x => m_is_bar x) cBool)) : FnP P w K mg base "hindered_by" 2 ["head", "body"] (spP K (tcC (cTup (tcC cInt (tcC cInt (tcC cInt (tc1 (cSeq (cTup (tcC cStr (tcC cStr (tc1 cBool)))))))))) (tc1 cInt)) (fun x => m_hindered_by x.1 x.2) (cLst (cTup (tcC cStr (tcC cStr (tc1 cBool)))))) := by
  refine fnp_of hm F (fn_top (fun _ => False) (fun _ h => h.elim) F S_hindered_by (penC pen1) (fun x => [.im (cTup (tcC cInt (tcC cInt (tcC cInt (tc1 (cSeq (cTup (tcC cStr (tcC cStr (tc1 cBool)))))))))) x.1, .im cInt x.2, .no, .no, .no]) fun cdv A outer s H E hr C hB x => ?_) (fun _ _ _ _ _ _ us hl => match us, hl with | [_, _], _ => rfl)
  obtain ⟨a_head, a_body⟩ := x
  show GK _ C _ _ (m_hindered_by a_head a_body) _
  unfold m_hindered_by
  exact (gk_cons (gs_setN (c := (lstC (cTup (tcC cStr (tcC cStr (tc1 cBool)))))) 2 (ef_lst (el_nil (gk_cons (gs_forS (c := (cTup (tcC cInt (tc1 (cTup (tcC cStr (tcC cStr (tc1 cBool)))))))) (fun (s1 : (List (Str × Str × Bool))) => [.im (cTup (tcC cInt (tcC cInt (tcC cInt (tc1 (cSeq (cTup (tcC cStr (tcC cStr (tc1 cBool)))))))))) a_head, .im cInt a_body, .ow (lstC (cTup (tcC cStr (tcC cStr (tc1 cBool))))) s1, .no, .no]) rfl (ag_tup rfl (ags_cons (ag_name 3 S_hindered_by.nd) (ags_one (ag_name 4 S_hindered_by.nd)))) (ei_enumT T.enumerate_ (ea_one (ex_ixT (i := 3) (nthS (nthS (nthS nthL))) (ex_var 0 (⟨_, _, _, rfl, wk_refl, fun x2 s1 => gk_one (gk_join (fun (s3 : (List (Str × Str × Bool))) => [.im (cTup (tcC cInt (tcC cInt (tcC cInt (tc1 (cSeq (cTup (tcC cStr (tcC cStr (tc1 cBool)))))))))) a_head, .im cInt a_body, .ow (lstC (cTup (tcC cStr (tcC cStr (tc1 cBool))))) s3, .im cInt x2.1, .im (cTup (tcC cStr (tcC cStr (tc1 cBool)))) x2.2]) rfl (gs_if2 (et_w (ew_orT (et_val (ex_call F_is_bar (hr.mono (by decide)) (ea_one (ex_ixT (i := 1) (nthS nthZ) (ex_var 4 (⟨_, rfl, fun v4 => ⟨((decide (x2.2.2.1 = ("body" : Str))) && (decide (a_body < x2.1))), ew_or1 (et_w (ew_andT (et_cmp o_eqS (ex_ixT (i := 1) (nthS nthZ) (ex_var 4 (ex_str (⟨(decide (a_body < x2.1)), ew_and1 (et_cmp o_gt (ex_var 3 (ex_var 1 (fin wk_refl)))), fin wk_refl⟩))))))), ⟨_, _, rfl, gk_one (gs_expr (ex_own 2 m_append PySem.F.slot_list_append PySem.F.type_list_append (ea_one (ex_var 4 (⟨rfl, _, rfl, fun v5 => ⟨_, rfl, wk_refl⟩⟩))))), gk_nil (⟨_, rfl, wk_refl⟩)⟩⟩⟩))))))))) (fun s3 => ⟨_, rfl, wk_drops [3, 4]⟩)), fun s1 => gk_wk (wk_freeze (Γ' := [.im (cTup (tcC cInt (tcC cInt (tcC cInt (tc1 (cSeq (cTup (tcC cStr (tcC cStr (tc1 cBool)))))))))) a_head, .im cInt a_body, .im (cLst (cTup (tcC cStr (tcC cStr (tc1 cBool))))) s1, .no, .no]) 2 hB) (gk_one (gs_ret (ex_var 2 (rfl))))⟩))))) .never)))) S_hindered_by.nd))
theorem S_solid_pairs : FnScope ["head", "pairs", "body", "thing", "other", "moment"] ["head"] (defScope st_solid_pairs) := ⟨rfl, rfl, rfl, by decide +kernel, rfl, by decide +kernel, by decide +kernel⟩
theorem ok_solid_pairs {fa : Addr} {fd : FuncData} (T : Txt w K mg) (F : FunD K "solid_pairs" "solid_pairs" (defArgs st_solid_pairs) (defBody st_solid_pairs) (defScope st_solid_pairs) [] [] fa fd) (hm : mg "solid_pairs" = some (.ref fa)) (F_hindered_by : FnP P w K mg base "hindered_by" (2) ["head", "body"] (spP K (tcC (cTup (tcC cInt (tcC cInt (tcC cInt (tc1 (cSeq (cTup (tcC cStr (tcC cStr (tc1 cBool)))))))))) (tc1 cInt)) (fun x => m_hindered_by x.1 x.2) (cLst (cTup (tcC cStr (tcC cStr (tc1 cBool))))))) (F_count_of_moments : FnP P w K mg base "count_of_moments" (1) ["head", "thing", "other"] (spP K (tcC (cTup (tcC cInt (tcC cInt (tcC cInt (tc1 (cSeq (cTup (tcC cStr (tcC cStr (tc1 cBool)))))))))) (tcC (cTup (tcC cStr (tcC cStr (tc1 cBool)))) (tc1 (cTup (tcC cStr (tcC cStr (tc1 cBool))))))) (fun x => m_count_of_moments x.1 x.2.1 x.2.2) cInt)) : FnP P w K mg base "solid_pairs" 3 ["head"] (spP K (tc1 (cTup (tcC cInt (tcC cInt (tcC cInt (tc1 (cSeq (cTup (tcC cStr (tcC cStr (tc1 cBool))))))))))) (fun x => m_solid_pairs x) (cLst (cTup (tcC (cTup (tcC cStr (tc1 cInt))) (tc1 (cTup (tcC cStr (tc1 cInt)))))))) := by
  refine fnp_of hm F (fn_top (fun _ => False) (fun _ h => h.elim) F S_solid_pairs pen1 (fun x => [.im (cTup (tcC cInt (tcC cInt (tcC cInt (tc1 (cSeq (cTup (tcC cStr (tcC cStr (tc1 cBool)))))))))) x, .no, .no, .no, .no, .no]) fun cdv A outer s H E hr C hB a_head => ?_) (fun _ _ _ _ _ _ us hl => match us, hl with | [_], _ => rfl)
  show GK _ C _ _ (m_solid_pairs a_head) _
  unfold m_solid_pairs
  exact (gk_cons (gs_setN (c := (lstC (cTup (tcC (cTup (tcC cStr (tc1 cInt))) (tc1 (cTup (tcC cStr (tc1 cInt)))))))) 1 (ef_lst (el_nil (gk_cons (gs_forS (c := (cTup (tcC cInt (tc1 (cTup (tcC cStr (tcC cStr (tc1 cBool)))))))) (fun (s1 : (List ((Str × Int) × (Str × Int)))) => [.im (cTup (tcC cInt (tcC cInt (tcC cInt (tc1 (cSeq (cTup (tcC cStr (tcC cStr (tc1 cBool)))))))))) a_head, .ow (lstC (cTup (tcC (cTup (tcC cStr (tc1 cInt))) (tc1 (cTup (tcC cStr (tc1 cInt))))))) s1, .no, .no, .no, .no]) rfl (ag_tup rfl (ags_cons (ag_name 2 S_solid_pairs.nd) (ags_one (ag_name 3 S_solid_pairs.nd)))) (ei_enumT T.enumerate_ (ea_one (ex_ixT (i := 3) (nthS (nthS (nthS nthL))) (ex_var 0 (⟨_, _, _, rfl, wk_refl, fun x2 s1 => gk_one (gk_join (fun (s3 : (List ((Str × Int) × (Str × Int)))) => [.im (cTup (tcC cInt (tcC cInt (tcC cInt (tc1 (cSeq (cTup (tcC cStr (tcC cStr (tc1 cBool)))))))))) a_head, .ow (lstC (cTup (tcC (cTup (tcC cStr (tc1 cInt))) (tc1 (cTup (tcC cStr (tc1 cInt))))))) s3, .im cInt x2.1, .im (cTup (tcC cStr (tcC cStr (tc1 cBool)))) x2.2, .no, .no]) rfl (gs_if2 (et_cmp o_eqS (ex_ixT (i := 1) (nthS nthZ) (ex_var 3 (ex_str (⟨_, _, rfl, gk_one (gs_forS (c := (cTup (tcC cStr (tcC cStr (tc1 cBool))))) (fun (s5 : (List ((Str × Int) × (Str × Int)))) => [.im (cTup (tcC cInt (tcC cInt (tcC cInt (tc1 (cSeq (cTup (tcC cStr (tcC cStr (tc1 cBool)))))))))) a_head, .ow (lstC (cTup (tcC (cTup (tcC cStr (tc1 cInt))) (tc1 (cTup (tcC cStr (tc1 cInt))))))) s5, .im cInt x2.1, .im (cTup (tcC cStr (tcC cStr (tc1 cBool)))) x2.2, .no, .no]) rfl (ag_name 4 S_solid_pairs.nd) (ei_lst (ex_call F_hindered_by (hr.mono (by decide)) (ea_cons (ex_var 0 (ea_one (ex_var 2 (⟨_, rfl, fun v4 => ⟨_, _, _, rfl, wk_refl, fun x6 s5 => gk_one (gs_forS (c := cInt) (fun (s9 : (List ((Str × Int) × (Str × Int)))) => [.im (cTup (tcC cInt (tcC cInt (tcC cInt (tc1 (cSeq (cTup (tcC cStr (tcC cStr (tc1 cBool)))))))))) a_head, .ow (lstC (cTup (tcC (cTup (tcC cStr (tc1 cInt))) (tc1 (cTup (tcC cStr (tc1 cInt))))))) s9, .im cInt x2.1, .im (cTup (tcC cStr (tcC cStr (tc1 cBool)))) x2.2, .im (cTup (tcC cStr (tcC cStr (tc1 cBool)))) x6, .no]) rfl (ag_name 5 S_solid_pairs.nd) (ei_rng1 T.range_ (ex_call F_count_of_moments (hr.mono (by decide)) (ea_cons (ex_var 0 (ea_cons (ex_var 3 (ea_one (ex_var 4 (⟨_, rfl, fun v7 => ⟨_, rfl, fun v8 => ⟨_, _, _, rfl, wk_refl, fun x10 s9 => gk_one (gs_expr (ex_own 1 m_append PySem.F.slot_list_append PySem.F.type_list_append (ea_one (ex_tup (ea_cons (ex_tup (ea_cons (ex_ixT (i := 0) nthZ (ex_var 3 (ea_one (ex_var 5 (ea_one (ex_tup (ea_cons (ex_ixT (i := 0) nthZ (ex_var 4 (ea_one (ex_var 5 (⟨rfl, _, rfl, fun v11 => ⟨_, rfl, wk_drops [5]⟩⟩))))))))))))))))))), fun s9 => ⟨_, rfl, wk_drops [4]⟩⟩⟩⟩))))))))) .never), fun s5 => ⟨_, rfl, wk_refl⟩⟩⟩))))))) .never), gk_nil (⟨_, rfl, wk_refl⟩)⟩)))))) (fun s3 => ⟨_, rfl, wk_drops [2, 3]⟩)), fun s1 => gk_wk (wk_freeze (Γ' := [.im (cTup (tcC cInt (tcC cInt (tcC cInt (tc1 (cSeq (cTup (tcC cStr (tcC cStr (tc1 cBool)))))))))) a_head, .im (cLst (cTup (tcC (cTup (tcC cStr (tc1 cInt))) (tc1 (cTup (tcC cStr (tc1 cInt))))))) s1, .no, .no, .no, .no]) 1 hB) (gk_one (gs_ret (ex_var 1 (rfl))))⟩))))) .never)))) S_solid_pairs.nd))
theorem S_solidities : FnScope ["head", "p", "q"] ["head"] (defScope st_solidities) := ⟨rfl, rfl, rfl, by decide +kernel, rfl, by decide +kernel, by decide +kernel⟩
theorem ok_solidities {fa : Addr} {fd : FuncData} (T : Txt w K mg) (F : FunD K "solidities" "solidities" (defArgs st_solidities) (defBody st_solidities) (defScope st_solidities) [] [] fa fd) (hm : mg "solidities" = some (.ref fa)) (F_solid_pairs : FnP P w K mg base "solid_pairs" (3) ["head"] (spP K (tc1 (cTup (tcC cInt (tcC cInt (tcC cInt (tc1 (cSeq (cTup (tcC cStr (tcC cStr (tc1 cBool))))))))))) (fun x => m_solid_pairs x) (cLst (cTup (tcC (cTup (tcC cStr (tc1 cInt))) (tc1 (cTup (tcC cStr (tc1 cInt))))))))) : FnP P w K mg base "solidities" 4 ["head"] (spP K (tc1 (cTup (tcC cInt (tcC cInt (tcC cInt (tc1 (cSeq (cTup (tcC cStr (tcC cStr (tc1 cBool))))))))))) (fun x => m_solidities x) (cSeq (cTup (tcC cStr (tc1 (cTup (tcC cStr (tcC (cTup (tcC cStr (tc1 cInt))) (tc1 (cTup (tcC cStr (tc1 cInt)))))))))))) := by
  refine fnp_of hm F (fn_top (fun _ => False) (fun _ h => h.elim) F S_solidities pen1 (fun x => [.im (cTup (tcC cInt (tcC cInt (tcC cInt (tc1 (cSeq (cTup (tcC cStr (tcC cStr (tc1 cBool)))))))))) x, .no, .no]) fun cdv A outer s H E hr C hB a_head => ?_) (fun _ _ _ _ _ _ us hl => match us, hl with | [_], _ => rfl)
  show GK _ C _ _ (m_solidities a_head) _
  unfold m_solidities
  exact (gk_one (gs_ret (ex_callTT b_tupL T.tuple_ bt_tuple (ea_one (ex_froz (ef_lc rfl S_solidities.nd (lc_map (c := (cTup (tcC (cTup (tcC cStr (tc1 cInt))) (tc1 (cTup (tcC cStr (tc1 cInt))))))) (d := (cTup (tcC cStr (tc1 (cTup (tcC cStr (tcC (cTup (tcC cStr (tc1 cInt))) (tc1 (cTup (tcC cStr (tc1 cInt))))))))))) (ws := [1, 2]) (up := fun Γ (x : ((Str × Int) × (Str × Int))) => ((Γ.set 1 (.im (cTup (tcC cStr (tc1 cInt))) x.1)).set 2 (.im (cTup (tcC cStr (tc1 cInt))) x.2))) (blkOk_by (own := [("p", 1), ("q", 2)]) (by kernel_rfl)) (fun C' sh H Cc cl fp => (ag_as (ag_tup rfl (ags_cons (ag_name 1 S_solidities.nd) (ags_one (ag_name 2 S_solidities.nd)))))) (ei_lst (ex_call F_solid_pairs (hr.mono (by decide)) (ea_one (ex_var 0 (⟨_, rfl, fun v1 => ⟨_, _, rfl, fun ys3 => rfl, fun C' sh H Cc cl fp x2 => ex_tup (ea_cons (ex_str (ea_one (ex_tup (ea_cons (ex_str (ea_cons (ex_var 1 (ea_one (ex_var 2 (⟨rfl, wk_refl⟩)))))))))))⟩⟩))))))))))))
theorem S__law_tape : FnScope ["script", "mixed", "cell"] ["script"] (defScope st__law_tape) := ⟨rfl, rfl, rfl, by decide +kernel, rfl, by decide +kernel, by decide +kernel⟩
theorem ok__law_tape {fa : Addr} {fd : FuncData} (T : Txt w K mg) (F : FunD K "_law_tape" "_law_tape" (defArgs st__law_tape) (defBody st__law_tape) (defScope st__law_tape) [] [] fa fd) (hm : mg "_law_tape" = some (.ref fa)) : FnP P w K mg base "_law_tape" 1 ["script"] (spN K (tc1 cScr) (fun x => m_law_tape x) celT) := by
  refine fnp_of hm F (fn_topN F S__law_tape pen1 (fun x => [.im cScr x, .no, .no]) fun cdv A outer s H E hr C hB a_script => ?_) (fun _ _ _ _ _ _ us hl => match us, hl with | [_], _ => rfl)
  show GK _ C _ _ (m_law_tape a_script) _
  unfold m_law_tape
  exact (gk_cons (gs_set 1 (ex_int (gk_cons (gs_forS (c := cInt) (fun (s1 : Int) => [.im cScr a_script, .im cInt s1, .no]) rfl (ag_name 2 S__law_tape.nd) (ei_scr (ex_var 0 (⟨_, _, _, rfl, wk_refl, fun x2 s1 => gk_one (gs_set 1 (ex_op2 o_mod (ex_callTT b_int T.int_ bt_int (ea_one (ex_op2T o_add (ex_op2 o_mul (ex_var 1 (ex_int (⟨_, rfl, fun v3 => ex_callBT b_abs T.abs_ bt_abs (ea_one (ex_callTT b_int T.int_ bt_int (ea_one (ex_var 2 (ex_int (⟨_, rfl, fun v4 => ⟨_, rfl, wk_drops [2]⟩⟩))))))⟩)))))))) S__law_tape.nd), fun s1 => gk_one (gs_retN (ef_tape (ea_cons (ex_froz (ef_callTT n_listZ T.list_ bt_list (ea_one (ex_var 0 (ea_cons (ex_int (ea_cons (ex_int (ea_one (ex_var 1 (rfl))))))))))))))⟩))) .never))) S__law_tape.nd))
theorem S__law_draw : FnScope ["tape", "many", "place", "number"] ["tape", "many"] (defScope st__law_draw) := ⟨rfl, rfl, rfl, by decide +kernel, rfl, by decide +kernel, by decide +kernel⟩
theorem ok__law_draw {fa : Addr} {fd : FuncData} (T : Txt w K mg) (F : FunD K "_law_draw" "_law_draw" (defArgs st__law_draw) (defBody st__law_draw) (defScope st__law_draw) [] [] fa fd) (hm : mg "_law_draw" = some (.ref fa)) : FnP P w K mg base "_law_draw" 1 ["tape", "many"] (spM K celT (tc1 cInt) (fun tp x => m_law_draw tp x) cInt) := by
  refine fnp_of hm F (fn_topL F S__law_draw pen1 (fun tp x => [.lp, .im cInt x, .no, .no, .ln celT tp]) fun cdv A outer s H E hr C hB tp a_many => ?_) (fun _ _ _ _ _ _ us hl => match us, hl with | [_, _], _ => rfl)
  show GK _ C _ _ (m_law_draw tp a_many) _
  unfold m_law_draw
  exact (gk_cons (gk_joinF (fun (s1 : Tape) => [.lp, .im cInt a_many, .no, .no, .ln celT s1]) rfl (gs_if2 (et_cmp o_eq (ex_tapeF (kk := 2) 0 4 (ex_int (⟨_, _, rfl, gk_cons (gs_let 2 (ex_tapeF (kk := 1) 0 4 (⟨_, rfl, fun place_2 => gk_cons (gs_set 3 (ex_int (gk_cons (gk_join (fun (s3 : (Int × Tape)) => [.lp, .im cInt a_many, .im cInt place_2, .im cInt s3.1, .ln celT s3.2]) rfl (gs_if2 (et_cmp o_lt (ex_var 2 (ex_callBT b_lenL T.len_ bt_len (ea_one (ex_tape0 0 4 (⟨_, _, rfl, gk_one (gs_let 3 (ex_callBT b_abs T.abs_ bt_abs (ea_one (ex_callTT b_int T.int_ bt_int (ea_one (ex_ixL (ex_tape0 0 4 (ex_var 2 (⟨_, rfl, fun v4 => ⟨_, rfl, fun number_5 => ⟨_, rfl, wk_refl⟩⟩⟩)))))))) S__law_draw.nd), gk_cons (gs_tape (kk := 3) 0 4 (ex_op2 o_mod (ex_callTT b_int T.int_ bt_int (ea_one (ex_op2T o_add (ex_op2T o_add (ex_op2 o_mul (ex_tapeF (kk := 3) 0 4 (ex_int (⟨_, rfl, fun v6 => ex_var 2 (ex_int (ex_int (⟨_, rfl, fun v7 => ⟨rfl, rfl, _, rfl, gk_one (gs_let 3 (ex_tapeF (kk := 3) 0 4 (⟨_, rfl, fun number_9 => ⟨_, rfl, wk_refl⟩⟩)) S__law_draw.nd)⟩⟩)))⟩))))))))))⟩))))))) (fun s3 => gk_cons (gs_tape (kk := 1) 0 4 (ex_op2T o_add (ex_var 2 (ex_int (⟨rfl, rfl, _, rfl, gk_cons (gs_ifR (et_cmp o_lt (ex_var 3 (ex_op2 o_pow (ex_int (ex_int (⟨_, rfl, fun v11 => ⟨_, _, rfl, gk_cons (gs_set 3 (ex_op2 o_mod (ex_callTT b_int T.int_ bt_int (ea_one (ex_op2T o_add (ex_op2T o_add (ex_op2 o_mul (ex_var 3 (ex_int (⟨_, rfl, fun v12 => ex_op2 o_mul (ex_var 2 (ex_int (⟨_, rfl, fun v13 => ex_int (ex_int (⟨_, rfl, fun v14 => gk_cons (gs_set 3 (ex_op2 o_mod (ex_callTT b_int T.int_ bt_int (ea_one (ex_op2 o_mul (ex_var 3 (ex_int (⟨_, rfl, fun v15 => ex_int (⟨_, rfl, fun v16 => gk_one (gs_retL 4 (ex_op2 o_mod (ex_callTT b_int T.int_ bt_int (ea_one (ex_var 3 (ex_callBT (b_max rfl) T.max_ bt_max (ea_cons (ex_var 1 (ea_one (ex_int (⟨_, rfl, fun v17 => by exact ⟨_, rfl, rfl⟩⟩)))))))))))⟩)⟩))))))) S__law_draw.nd)⟩))⟩)))⟩))))))))) S__law_draw.nd), gk_one (gs_tape (kk := 2) 0 4 (ex_var 3 (⟨rfl, rfl, _, rfl, ⟨_, rfl, wk_drops [2, 3]⟩⟩)))⟩⟩)))))))⟩))))))))) S__law_draw.nd)⟩)) S__law_draw.nd), gk_nil (⟨_, rfl, wk_refl⟩)⟩))))) (fun s1 => gk_cons (gs_let 3 (ex_tapeF (kk := 2) 0 4 (⟨_, rfl, fun number_19 => gk_cons (gs_tape (kk := 2) 0 4 (ex_op2 o_fdiv (ex_var 3 (ex_callBT (b_max rfl) T.max_ bt_max (ea_cons (ex_var 1 (ea_one (ex_int (⟨_, rfl, fun v20 => ⟨rfl, rfl, _, rfl, gk_one (gs_retL 4 (ex_op2 o_mod (ex_callTT b_int T.int_ bt_int (ea_one (ex_var 3 (ex_callBT (b_max rfl) T.max_ bt_max (ea_cons (ex_var 1 (ea_one (ex_int (⟨_, rfl, fun v22 => by exact ⟨_, rfl, rfl⟩⟩)))))))))))⟩⟩)))))))))⟩)) S__law_draw.nd)) (fun _ => rfl) (by intro _ _ h; cases h) (by intro _ _ h; cases h)))
theorem S__law_pick : FnScope ["tape", "menu"] ["tape", "menu"] (defScope st__law_pick) := ⟨rfl, rfl, rfl, by decide +kernel, rfl, by decide +kernel, by decide +kernel⟩
theorem ok__law_pick {Aa : Type} (ca : Cod K Aa) {fa : Addr} {fd : FuncData} (T : Txt w K mg) (F : FunD K "_law_pick" "_law_pick" (defArgs st__law_pick) (defBody st__law_pick) (defScope st__law_pick) [] [] fa fd) (hm : mg "_law_pick" = some (.ref fa)) (F__law_draw : FnP P w K mg base "_law_draw" (1) ["tape", "many"] (spM K celT (tc1 cInt) (fun tp x => m_law_draw tp x) cInt)) : FnP P w K mg base "_law_pick" 2 ["tape", "menu"] (spM K celT (tc1 (cRow ca)) (fun tp x => m_law_pick tp x) ca) := by
  refine fnp_of hm F (fn_topL F S__law_pick pen1 (fun tp x => [.lp, .im (cRow ca) x, .ln celT tp]) fun cdv A outer s H E hr C hB tp a_menu => ?_) (fun _ _ _ _ _ _ us hl => match us, hl with | [_, _], _ => rfl)
  show GK _ C _ _ (m_law_pick tp a_menu) _
  unfold m_law_pick
  exact (gk_one (gs_retL 2 (ex_ixR (ex_var 1 (ex_callL 0 2 F__law_draw (hr.mono (by decide)) (ea_one (ex_callBT b_lenR T.len_ bt_len (ea_one (ex_var 1 (⟨_, rfl, rfl, _, rfl, fun v1 => ⟨_, rfl, fun v2 => by exact ⟨_, rfl, rfl⟩⟩⟩))))))))))
theorem S__law_turns : FnScope ["tape", "many", "rest", "turns", "k"] ["tape", "many"] (defScope st__law_turns) := ⟨rfl, rfl, rfl, by decide +kernel, rfl, by decide +kernel, by decide +kernel⟩
theorem ok__law_turns {fa : Addr} {fd : FuncData} (T : Txt w K mg) (F : FunD K "_law_turns" "_law_turns" (defArgs st__law_turns) (defBody st__law_turns) (defScope st__law_turns) [] [] fa fd) (hm : mg "_law_turns" = some (.ref fa)) (F__law_draw : FnP P w K mg base "_law_draw" (1) ["tape", "many"] (spM K celT (tc1 cInt) (fun tp x => m_law_draw tp x) cInt)) : FnP P w K mg base "_law_turns" 2 ["tape", "many"] (spMN K celT (tc1 cInt) (fun tp x => m_law_turns tp x) (lstC cInt)) := by
  refine fnp_of hm F (fn_topNL F S__law_turns pen1 (fun tp x => [.lp, .im cInt x, .no, .no, .no, .ln celT tp]) fun cdv A outer s H E hr C hB tp a_many => ?_) (fun _ _ _ _ _ _ us hl => match us, hl with | [_, _], _ => rfl)
  show GK _ C _ _ (m_law_turns tp a_many) _
  unfold m_law_turns
  exact (gk_cons (gs_setN (c := (lstC cInt)) 2 (ef_listRng rfl T.list_ T.range_ (ex_var 1 (⟨_, rfl, fun v1 => gk_cons (gs_setN (c := (lstC cInt)) 3 (ef_lst (el_nil (gk_cons (gs_forS (c := cInt) (fun (s3 : ((List Int) × (List Int) × Tape)) => [.lp, .im cInt a_many, .ow (lstC cInt) s3.1, .ow (lstC cInt) s3.2.1, .no, .ln celT s3.2.2]) rfl (ag_name 4 S__law_turns.nd) (ei_rng1 T.range_ (ex_var 1 (⟨_, rfl, fun v2 => ⟨_, _, _, rfl, wk_refl, fun x4 s3 => gk_one (gs_expr (ex_own 3 m_append PySem.F.slot_list_append PySem.F.type_list_append (ea_one (ex_own 2 m_popAt PySem.F.slot_list_pop PySem.F.type_list_pop (ea_one (ex_callL 0 5 F__law_draw (hr.mono (by decide)) (ea_one (ex_lenO 2 T.len_ (⟨_, rfl, rfl, _, rfl, fun v5 => ⟨rfl, _, rfl, fun v6 => ⟨rfl, _, rfl, fun v7 => ⟨_, rfl, wk_drops [4]⟩⟩⟩⟩))))))))), fun s3 => gk_wk (wk_freeze (Γ' := [.lp, .im cInt a_many, .ow (lstC cInt) s3.1, .im (cLst cInt) s3.2.1, .no, .ln celT s3.2.2]) 3 hB) (gk_one (gs_retNL 5 (ef_slL (ex_var 3 (eo_none (eo_some (ex_ixL (ex_froz (ef_lst (el_cons (ex_var 1 (el_cons (ex_var 1 (el_cons (ex_int (el_nil (ex_callL 0 5 F__law_draw (hr.mono (by decide)) (ea_one (ex_int (⟨_, rfl, rfl, _, rfl, fun v8 => ⟨_, rfl, fun v9 => by exact ⟨_, rfl, rfl⟩⟩⟩))))))))))))))))))))⟩⟩))) .never)))) S__law_turns.nd)⟩))) S__law_turns.nd))
theorem S__law_shuffled : FnScope ["tape", "menu", "rest", "mixed", "k"] ["tape", "menu"] (defScope st__law_shuffled) := ⟨rfl, rfl, rfl, by decide +kernel, rfl, by decide +kernel, by decide +kernel⟩
theorem ok__law_shuffled {Aa : Type} (ca : Cod K Aa) {fa : Addr} {fd : FuncData} (T : Txt w K mg) (F : FunD K "_law_shuffled" "_law_shuffled" (defArgs st__law_shuffled) (defBody st__law_shuffled) (defScope st__law_shuffled) [] [] fa fd) (hm : mg "_law_shuffled" = some (.ref fa)) (F__law_draw : FnP P w K mg base "_law_draw" (1) ["tape", "many"] (spM K celT (tc1 cInt) (fun tp x => m_law_draw tp x) cInt)) : FnP P w K mg base "_law_shuffled" 2 ["tape", "menu"] (spMN K celT (tc1 (cRow ca)) (fun tp x => m_law_shuffled tp x) (lstC ca)) := by
  refine fnp_of hm F (fn_topNL F S__law_shuffled pen1 (fun tp x => [.lp, .im (cRow ca) x, .no, .no, .no, .ln celT tp]) fun cdv A outer s H E hr C hB tp a_menu => ?_) (fun _ _ _ _ _ _ us hl => match us, hl with | [_, _], _ => rfl)
  show GK _ C _ _ (m_law_shuffled tp a_menu) _
  unfold m_law_shuffled
  exact (gk_cons (gs_setN (c := (lstC ca)) 2 (ef_callTT n_listR T.list_ bt_list (ea_one (ex_var 1 (gk_cons (gs_setN (c := (lstC ca)) 3 (ef_lst (el_nil (gk_cons (gs_forS (c := cInt) (fun (s2 : ((List Aa) × (List Aa) × Tape)) => [.lp, .im (cRow ca) a_menu, .ow (lstC ca) s2.1, .ow (lstC ca) s2.2.1, .no, .ln celT s2.2.2]) rfl (ag_name 4 S__law_shuffled.nd) (ei_rng1 T.range_ (ex_callBT b_lenR T.len_ bt_len (ea_one (ex_var 1 (⟨_, rfl, fun v1 => ⟨_, _, _, rfl, wk_refl, fun x3 s2 => gk_one (gs_expr (ex_own 3 m_append PySem.F.slot_list_append PySem.F.type_list_append (ea_one (ex_own 2 m_popAt PySem.F.slot_list_pop PySem.F.type_list_pop (ea_one (ex_callL 0 5 F__law_draw (hr.mono (by decide)) (ea_one (ex_lenO 2 T.len_ (⟨_, rfl, rfl, _, rfl, fun v4 => ⟨rfl, _, rfl, fun v5 => ⟨rfl, _, rfl, fun v6 => ⟨_, rfl, wk_drops [4]⟩⟩⟩⟩))))))))), fun s2 => gk_one (gs_retOL 3 5 rfl hB)⟩⟩))))) .never)))) S__law_shuffled.nd))))) S__law_shuffled.nd))
theorem S__law_put : FnScope ["told", "place", "thing"] ["told", "place", "thing"] (defScope st__law_put) := ⟨rfl, rfl, rfl, by decide +kernel, rfl, by decide +kernel, by decide +kernel⟩
theorem ok__law_put {fa : Addr} {fd : FuncData} (T : Txt w K mg) (F : FunD K "_law_put" "_law_put" (defArgs st__law_put) (defBody st__law_put) (defScope st__law_put) [] [] fa fd) (hm : mg "_law_put" = some (.ref fa)) : FnP P w K mg base "_law_put" 1 ["told", "place", "thing"] (spP K (tcC (cSeq cU) (tcC cInt (tc1 cU))) (fun x => m_law_put x.1 x.2.1 x.2.2) (cSeq cU)) := by
  refine fnp_of hm F (fn_top (fun _ => False) (fun _ h => h.elim) F S__law_put (penC (penC pen1)) (fun x => [.im (cSeq cU) x.1, .im cInt x.2.1, .im cU x.2.2]) fun cdv A outer s H E hr C hB x => ?_) (fun _ _ _ _ _ _ us hl => match us, hl with | [_, _, _], _ => rfl)
  obtain ⟨a_told, a_place, a_thing⟩ := x
  show GK _ C _ _ (m_law_put a_told a_place a_thing) _
  unfold m_law_put
  exact (gk_one (gs_ret (ex_op2 o_catS (ex_op2 o_catS (ex_slS (ex_var 0 (eo_none (eo_some (ex_var 1 (ex_tupS (el_cons (ex_var 2 (el_nil (⟨_, rfl, fun v1 => ex_slS (ex_var 0 (eo_some (ex_op2T o_add (ex_var 1 (ex_int (eo_none (⟨_, rfl, fun v2 => rfl⟩)))))))⟩))))))))))))))
theorem S__law_same : FnScope ["told", "wanted", "k"] ["told", "wanted"] (defScope st__law_same) := ⟨rfl, rfl, rfl, by decide +kernel, rfl, by decide +kernel, by decide +kernel⟩
theorem ok__law_same {fa : Addr} {fd : FuncData} (T : Txt w K mg) (F : FunD K "_law_same" "_law_same" (defArgs st__law_same) (defBody st__law_same) (defScope st__law_same) [] [] fa fd) (hm : mg "_law_same" = some (.ref fa)) : ∀ fuel : Nat, FnP P w K mg base "_law_same" (1 + fuel) ["told", "wanted"] (spP K (tcC cU (tc1 cU)) (fun x => m_law_same fuel x.1 x.2) cBool)
  | 0 => by
    refine fnp_of hm F (FnOk.mono (fn_top (fun _ => False) (fun _ h => h.elim) (k := 0) F S__law_same (penC pen1) (fun x => [.im cU x.1, .im cU x.2, .no]) fun cdv A outer s H E hr C hB x => gk_stuck) (by omega)) (fun _ _ _ _ _ _ us hl => match us, hl with | [_, _], _ => rfl)
  | fuel + 1 => by
    have F__law_same := ok__law_same T F hm fuel
    refine fnp_of hm F (fn_top (fun _ => False) (fun _ h => h.elim) F S__law_same (penC pen1) (fun x => [.im cU x.1, .im cU x.2, .no]) fun cdv A outer s H E hr C hB x => ?_) (fun _ _ _ _ _ _ us hl => match us, hl with | [_, _], _ => rfl)
    obtain ⟨a_told, a_wanted⟩ := x
    show GK _ C _ _ (m_law_same (fuel + 1) a_told a_wanted) _
    unfold m_law_same
    exact (gk_cons (gs_ifR (et_val (ex_isi (T := "tuple") T.isinstance_ T.tuple_ bt_tuple (ex_var 1 (⟨_, rfl, fun v1 => ⟨_, _, rfl, gk_cons (gs_ifR (et_w (ew_or (fun (c : Bool) => c) (fun _ => [.im cU a_told, .im cU a_wanted, .no]) (ew_not (et_val (ex_isi (T := "tuple") T.isinstance_ T.tuple_ bt_tuple (ex_var 0 (⟨_, rfl, fun v2 => ⟨_, true, _, rfl, rfl, wk_refl, ew_or1 (et_cmp o_ne (ex_callB b_lenU T.len_ bt_len (ea_one (ex_var 0 (⟨_, rfl, fun v3 => ex_callB b_lenU T.len_ bt_len (ea_one (ex_var 1 (⟨_, rfl, fun v4 => fin wk_refl⟩)))⟩))))), fun c5 => ⟨_, _, rfl, gk_one (gs_ret (ex_bl (rfl))), gk_cons (gs_forF (c := cInt) (fun (s8 : Unit) => [.im cU a_told, .im cU a_wanted, .no]) rfl (ag_name 2 S__law_same.nd) (ei_rng1 T.range_ (ex_callB b_lenU T.len_ bt_len (ea_one (ex_var 1 (⟨_, rfl, fun v6 => ⟨_, rfl, fun v7 => ⟨_, _, _, rfl, wk_refl, fun x9 s8 => gk_one (gs_ifR (ew_not (et_val (ex_call F__law_same (hr.mono (by (try simp only [Nat.add_eq]); omega)) (ea_cons (ex_ixU (ex_var 0 (ex_var 2 (⟨_, rfl, fun v10 => ea_one (ex_ixU (ex_var 1 (ex_var 2 (⟨_, rfl, fun v11 => ⟨_, rfl, fun v12 => ⟨_, _, rfl, gk_one (gs_ret (ex_bl (rfl))), ⟨_, rfl, wk_drops [2]⟩⟩⟩⟩))))⟩))))))))), fun s8 => gk_one (gs_ret (ex_bl (rfl))), fun _ => rfl⟩⟩⟩))))) .never)⟩⟩⟩)))))))), gk_cons (gs_ifR (et_w (ew_or (fun (c : Bool) => c) (fun _ => [.im cU a_told, .im cU a_wanted, .no]) (et_isU (ex_var 1 (⟨_, rfl, fun v13 => ⟨_, true, _, rfl, rfl, wk_refl, ew_or1 (et_isU (ex_var 0 (⟨_, rfl, fun v14 => fin wk_refl⟩))), fun c15 => ⟨_, _, rfl, gk_one (gs_ret (ex_and (fun (c : Bool) => c) (fun _ => [.im cU a_told, .im cU a_wanted, .no]) (ex_isU (ex_var 1 (⟨_, rfl, fun v16 => ⟨_, false, _, rfl, rfl, wk_refl, ex_one (ex_isU (ex_var 0 (⟨_, rfl, fun v17 => fin wk_refl⟩))), fun c18 => rfl⟩⟩))))), gk_cons (gs_ifR (et_val (ex_isi (T := "str") T.isinstance_ T.str_ bt_str (ex_var 1 (⟨_, rfl, fun v19 => ⟨_, _, rfl, gk_one (gs_ret (ex_and (fun (c : Bool) => c) (fun _ => [.im cU a_told, .im cU a_wanted, .no]) (ex_isi (T := "str") T.isinstance_ T.str_ bt_str (ex_var 0 (⟨_, rfl, fun v20 => ⟨_, false, _, rfl, rfl, wk_refl, ex_one (ex_cmpP o_eqU (ex_var 0 (ex_var 1 (⟨_, rfl, fun v21 => fin wk_refl⟩)))), fun c22 => rfl⟩⟩))))), gk_cons (gs_ifR (et_w (ew_or (fun (c : Bool) => c) (fun _ => [.im cU a_told, .im cU a_wanted, .no]) (et_cmp o_neB (ex_isi (T := "bool") T.isinstance_ T.bool_ bt_bool (ex_var 0 (⟨_, rfl, fun v23 => ex_isi (T := "bool") T.isinstance_ T.bool_ bt_bool (ex_var 1 (⟨_, rfl, fun v24 => ⟨_, true, _, rfl, rfl, wk_refl, ew_or1 (ew_not (et_val (ex_isi (T := "int") T.isinstance_ T.int_ bt_int (ex_var 0 (⟨_, rfl, fun v25 => fin wk_refl⟩))))), fun c26 => ⟨_, _, rfl, gk_one (gs_ret (ex_bl (rfl))), gk_one (gs_ret (ex_cmpP o_eqU (ex_var 0 (ex_var 1 (⟨_, rfl, fun v27 => rfl⟩)))))⟩⟩⟩))⟩)))))))⟩⟩)))))⟩⟩⟩))))))⟩⟩))))))
theorem S__law_names : FnScope ["tape", "many", "signs", "stem", "names", "k", "name", "j", "other"] ["tape", "many"] (defScope st__law_names) := ⟨rfl, rfl, rfl, by decide +kernel, rfl, by decide +kernel, by decide +kernel⟩
theorem ok__law_names {fa : Addr} {fd : FuncData} (T : Txt w K mg) (F : FunD K "_law_names" "_law_names" (defArgs st__law_names) (defBody st__law_names) (defScope st__law_names) [] [] fa fd) (hm : mg "_law_names" = some (.ref fa)) (F__law_pick : ∀ {Aa : Type} (ca : Cod K Aa), FnP P w K mg base "_law_pick" (2) ["tape", "menu"] (spM K celT (tc1 (cRow ca)) (fun tp x => m_law_pick tp x) ca)) (F__law_draw : FnP P w K mg base "_law_draw" (1) ["tape", "many"] (spM K celT (tc1 cInt) (fun tp x => m_law_draw tp x) cInt)) : FnP P w K mg base "_law_names" 3 ["tape", "many"] (spMN K celT (tc1 cInt) (fun tp x => m_law_names tp x) (lstC cStr)) := by
  refine fnp_of hm F (fn_topNL F S__law_names pen1 (fun tp x => [.lp, .im cInt x, .no, .no, .no, .no, .no, .no, .no, .ln celT tp]) fun cdv A outer s H E hr C hB tp a_many => ?_) (fun _ _ _ _ _ _ us hl => match us, hl with | [_, _], _ => rfl)
  show GK _ C _ _ (m_law_names tp a_many) _
  unfold m_law_names
  exact (gk_cons (gs_let 2 (ex_str (⟨_, rfl, fun signs_1 => gk_cons (gs_set 3 (ex_callL 0 9 (F__law_pick cStr) (hr.mono (by decide)) (ea_one (ex_rowL (ex_froz (ef_lst (el_cons (ex_str (el_cons (ex_str (el_cons (ex_str (el_cons (ex_str (el_cons (ex_str (el_cons (ex_str (el_nil (⟨_, rfl, rfl, _, rfl, fun v2 => gk_cons (gs_setN (c := (lstC cStr)) 4 (ef_lst (el_nil (gk_cons (gs_forS (c := cInt) (fun (s4 : ((List Str) × Tape)) => [.lp, .im cInt a_many, .im cStr signs_1, .im cStr v2.1, .ow (lstC cStr) s4.1, .no, .no, .no, .no, .ln celT s4.2]) rfl (ag_name 5 S__law_names.nd) (ei_rng1 T.range_ (ex_var 1 (⟨_, rfl, fun v3 => ⟨_, _, _, rfl, wk_refl, fun x5 s4 => gk_cons (gs_set 6 (ex_var 3 (gk_cons (gs_forS (c := cInt) (fun (s9 : (Str × Tape)) => [.lp, .im cInt a_many, .im cStr signs_1, .im cStr v2.1, .ow (lstC cStr) s4.1, .im cInt x5, .im cStr s9.1, .no, .no, .ln celT s9.2]) rfl (ag_name 7 S__law_names.nd) (ei_rng1 T.range_ (ex_callL 0 9 (F__law_pick cInt) (hr.mono (by decide)) (ea_one (ex_rowL (ex_froz (ef_lst (el_cons (ex_int (el_cons (ex_int (el_cons (ex_int (el_cons (ex_op2T o_sub (ex_int (ex_callB b_lenT T.len_ bt_len (ea_one (ex_var 3 (⟨_, rfl, fun v6 => el_nil (⟨_, rfl, rfl, _, rfl, fun v7 => ⟨_, rfl, fun v8 => ⟨_, _, _, rfl, wk_refl, fun x10 s9 => gk_one (gs_set 6 (ex_op2 o_catT (ex_var 6 (ex_ixStr (ex_var 2 (ex_callL 0 9 F__law_draw (hr.mono (by decide)) (ea_one (ex_ifT (et_cmp o_neS (ex_var 6 (ex_str (⟨(36 : Int), (26 : Int), ex_int (fin wk_refl), ex_int (fin wk_refl), ⟨_, rfl, rfl, _, rfl, fun v11 => ⟨_, rfl, fun v12 => ⟨_, rfl, fun v13 => ⟨_, rfl, wk_drops [7]⟩⟩⟩⟩⟩))))))))))) S__law_names.nd), fun s9 => gk_cons (gk_join (fun (s14 : (Str × Tape)) => [.lp, .im cInt a_many, .im cStr signs_1, .im cStr v2.1, .ow (lstC cStr) s4.1, .im cInt x5, .im cStr s14.1, .no, .no, .ln celT s14.2]) rfl (gs_if2 (et_cmp o_eq (ex_callL 0 9 F__law_draw (hr.mono (by decide)) (ea_one (ex_int (⟨_, rfl, rfl, _, rfl, fun v15 => ex_int (⟨_, _, rfl, gk_one (gs_set 6 (ex_callL 0 9 (F__law_pick cStr) (hr.mono (by decide)) (ea_one (ex_rowL (ex_froz (ef_lst (el_cons (ex_str (el_cons (ex_str (el_cons (ex_str (el_cons (ex_str (el_cons (ex_str (el_cons (ex_str (el_cons (ex_str (el_cons (ex_str (el_cons (ex_str (el_cons (ex_str (el_nil (⟨_, rfl, rfl, _, rfl, fun v16 => ⟨_, rfl, wk_refl⟩⟩))))))))))))))))))))))))))) S__law_names.nd), gk_nil (⟨_, rfl, wk_refl⟩)⟩)⟩)))))) (fun s14 => gk_cons (gk_join (fun (s17 : Str) => [.lp, .im cInt a_many, .im cStr signs_1, .im cStr v2.1, .ow (lstC cStr) s4.1, .im cInt x5, .im cStr s17, .no, .no, .ln celT s14.2]) rfl (gs_if2 (et_w (ew_orT (et_inO flatS 4 (ex_var 6 (⟨rfl, ⟨(decide (s14.1 ∈ [("always" : Str), ("and" : Str), ("never" : Str), ("not" : Str), ("or" : Str), ("shoved" : Str), ("slides" : Str), ("sum" : Str)])), ew_or1 (et_cmp (o_inL flatS) (ex_var 6 (ex_froz (ef_lst (el_cons (ex_str (el_cons (ex_str (el_cons (ex_str (el_cons (ex_str (el_cons (ex_str (el_cons (ex_str (el_cons (ex_str (el_cons (ex_str (el_nil (fin wk_refl)))))))))))))))))))))), ⟨_, _, rfl, gk_one (gs_set 6 (ex_ixL (ex_froz (ef_lc rfl S__law_names.nd (lc_flt (c := cStr) (d := cStr) (ws := [8]) (up := fun Γ (x : Str) => (Γ.set 8 (.im cStr x))) (blkOk_by (own := [("other", 8)]) (by kernel_rfl)) (fun C' sh H Cc cl fp => (ag_name 8 S__law_names.nd)) (ei_lst (ex_froz (ef_lc rfl S__law_names.nd (lc_map (c := cInt) (d := cStr) (ws := [7]) (up := fun Γ (x : Int) => (Γ.set 7 (.im cInt x))) (blkOk_by (own := [("j", 7)]) (by kernel_rfl)) (fun C' sh H Cc cl fp => (ag_name 7 S__law_names.nd)) (ei_rng1 T.range_ (ex_op2T o_add (ex_lenO 4 T.len_ (ex_int (⟨_, rfl, fun v18 => ⟨_, _, rfl, fun ys22 => ⟨_, _, _, rfl, fun ys24 => ex_int (⟨_, rfl, fun v25 => ⟨_, rfl, wk_refl⟩⟩), fun C' sh H Cc cl fp x23 => et_niO flatS 4 (ex_var 8 (⟨rfl, ⟨rfl, wk_refl⟩⟩)), fun C' sh H Cc cl fp x23 => ex_var 8 (⟨rfl, wk_refl⟩)⟩, fun C' sh H Cc cl fp x19 => ex_op2 o_catT (ex_str (ex_callT b_strI T.str_ bt_str (ea_one (ex_var 7 (⟨_, rfl, fun v20 => ⟨_, rfl, fun v21 => ⟨rfl, wk_refl⟩⟩⟩)))))⟩⟩))))))))))))) S__law_names.nd), gk_nil (⟨_, rfl, wk_refl⟩)⟩⟩⟩)))))) (fun s17 => gk_one (gs_expr (ex_own 4 m_append PySem.F.slot_list_append PySem.F.type_list_append (ea_one (ex_var 6 (⟨rfl, _, rfl, fun v26 => ⟨_, rfl, wk_drops [5, 6]⟩⟩)))))))))⟩⟩⟩)⟩))))))))))))))))))) .never))) S__law_names.nd), fun s4 => gk_one (gs_retOL 4 9 rfl hB)⟩⟩))) .never)))) S__law_names.nd)⟩))))))))))))))))))) S__law_names.nd)⟩)) S__law_names.nd))
theorem oku__law_names {fa : Addr} {fd : FuncData} (T : Txt w K mg) (F : FunD K "_law_names" "_law_names" (defArgs st__law_names) (defBody st__law_names) (defScope st__law_names) [] [] fa fd) (hm : mg "_law_names" = some (.ref fa)) (F__law_pick : ∀ {Aa : Type} (ca : Cod K Aa), FnP P w K mg base "_law_pick" (2) ["tape", "menu"] (spM K celT (tc1 (cRow ca)) (fun tp x => m_law_pick tp x) ca)) (F__law_draw : FnP P w K mg base "_law_draw" (1) ["tape", "many"] (spM K celT (tc1 cInt) (fun tp x => m_law_draw tp x) cInt)) : FnPU P w K mg base "_law_names" (3) ["tape", "many"] (spMN K celT (tc1 cInt) (fun tp x => m_law_names tp x) (lstC cStr)) := by
  refine fnpU_of hm F (fn_topNLU F S__law_names pen1 (fun tp x => [.lp, .im cInt x, .no, .no, .no, .no, .no, .no, .no, .ln celT tp]) fun cdv A outer s H E hr C hB tp a_many => ?_) (fun _ _ _ _ _ _ us hl => match us, hl with | [_, _], _ => rfl)
  show GK _ C _ _ (m_law_names tp a_many) _
  unfold m_law_names
  exact (gkU_str 2 (⟨_, rfl, fun signs_1 => gk_cons (gs_set 3 (ex_callL 0 9 (F__law_pick cStr) (hr.mono (by decide)) (ea_one (ex_rowL (ex_froz (ef_lst (el_cons (ex_str (el_cons (ex_str (el_cons (ex_str (el_cons (ex_str (el_cons (ex_str (el_cons (ex_str (el_nil (⟨_, rfl, rfl, _, rfl, fun v2 => gk_cons (gs_setN (c := (lstC cStr)) 4 (ef_lst (el_nil (gk_cons (gs_forS (c := cInt) (fun (s4 : ((List Str) × Tape)) => [.lp, .im cInt a_many, .im cStr signs_1, .im cStr v2.1, .ow (lstC cStr) s4.1, .no, .no, .no, .no, .ln celT s4.2]) rfl (ag_name 5 S__law_names.nd) (ei_rng1 T.range_ (ex_var 1 (⟨_, rfl, fun v3 => ⟨_, _, _, rfl, wk_refl, fun x5 s4 => gk_cons (gs_set 6 (ex_var 3 (gk_cons (gs_forS (c := cInt) (fun (s9 : (Str × Tape)) => [.lp, .im cInt a_many, .im cStr signs_1, .im cStr v2.1, .ow (lstC cStr) s4.1, .im cInt x5, .im cStr s9.1, .no, .no, .ln celT s9.2]) rfl (ag_name 7 S__law_names.nd) (ei_rng1 T.range_ (ex_callL 0 9 (F__law_pick cInt) (hr.mono (by decide)) (ea_one (ex_rowL (ex_froz (ef_lst (el_cons (ex_int (el_cons (ex_int (el_cons (ex_int (el_cons (ex_op2T o_sub (ex_int (ex_callB b_lenT T.len_ bt_len (ea_one (ex_var 3 (⟨_, rfl, fun v6 => el_nil (⟨_, rfl, rfl, _, rfl, fun v7 => ⟨_, rfl, fun v8 => ⟨_, _, _, rfl, wk_refl, fun x10 s9 => gk_one (gs_set 6 (ex_op2 o_catT (ex_var 6 (ex_ixStr (ex_var 2 (ex_callL 0 9 F__law_draw (hr.mono (by decide)) (ea_one (ex_ifT (et_cmp o_neS (ex_var 6 (ex_str (⟨(36 : Int), (26 : Int), ex_int (fin wk_refl), ex_int (fin wk_refl), ⟨_, rfl, rfl, _, rfl, fun v11 => ⟨_, rfl, fun v12 => ⟨_, rfl, fun v13 => ⟨_, rfl, wk_drops [7]⟩⟩⟩⟩⟩))))))))))) S__law_names.nd), fun s9 => gk_cons (gk_join (fun (s14 : (Str × Tape)) => [.lp, .im cInt a_many, .im cStr signs_1, .im cStr v2.1, .ow (lstC cStr) s4.1, .im cInt x5, .im cStr s14.1, .no, .no, .ln celT s14.2]) rfl (gs_if2 (et_cmp o_eq (ex_callL 0 9 F__law_draw (hr.mono (by decide)) (ea_one (ex_int (⟨_, rfl, rfl, _, rfl, fun v15 => ex_int (⟨_, _, rfl, gk_one (gs_set 6 (ex_callL 0 9 (F__law_pick cStr) (hr.mono (by decide)) (ea_one (ex_rowL (ex_froz (ef_lst (el_cons (ex_str (el_cons (ex_str (el_cons (ex_str (el_cons (ex_str (el_cons (ex_str (el_cons (ex_str (el_cons (ex_str (el_cons (ex_str (el_cons (ex_str (el_cons (ex_str (el_nil (⟨_, rfl, rfl, _, rfl, fun v16 => ⟨_, rfl, wk_refl⟩⟩))))))))))))))))))))))))))) S__law_names.nd), gk_nil (⟨_, rfl, wk_refl⟩)⟩)⟩)))))) (fun s14 => gk_cons (gk_join (fun (s17 : Str) => [.lp, .im cInt a_many, .im cStr signs_1, .im cStr v2.1, .ow (lstC cStr) s4.1, .im cInt x5, .im cStr s17, .no, .no, .ln celT s14.2]) rfl (gs_if2 (et_w (ew_orT (et_inO flatS 4 (ex_var 6 (⟨rfl, ⟨(decide (s14.1 ∈ [("always" : Str), ("and" : Str), ("never" : Str), ("not" : Str), ("or" : Str), ("shoved" : Str), ("slides" : Str), ("sum" : Str)])), ew_or1 (et_cmp (o_inL flatS) (ex_var 6 (ex_froz (ef_lst (el_cons (ex_str (el_cons (ex_str (el_cons (ex_str (el_cons (ex_str (el_cons (ex_str (el_cons (ex_str (el_cons (ex_str (el_cons (ex_str (el_nil (fin wk_refl)))))))))))))))))))))), ⟨_, _, rfl, gk_one (gs_set 6 (ex_ixL (ex_froz (ef_lc rfl S__law_names.nd (lc_flt (c := cStr) (d := cStr) (ws := [8]) (up := fun Γ (x : Str) => (Γ.set 8 (.im cStr x))) (blkOk_by (own := [("other", 8)]) (by kernel_rfl)) (fun C' sh H Cc cl fp => (ag_name 8 S__law_names.nd)) (ei_lst (ex_froz (ef_lc rfl S__law_names.nd (lc_map (c := cInt) (d := cStr) (ws := [7]) (up := fun Γ (x : Int) => (Γ.set 7 (.im cInt x))) (blkOk_by (own := [("j", 7)]) (by kernel_rfl)) (fun C' sh H Cc cl fp => (ag_name 7 S__law_names.nd)) (ei_rng1 T.range_ (ex_op2T o_add (ex_lenO 4 T.len_ (ex_int (⟨_, rfl, fun v18 => ⟨_, _, rfl, fun ys22 => ⟨_, _, _, rfl, fun ys24 => ex_int (⟨_, rfl, fun v25 => ⟨_, rfl, wk_refl⟩⟩), fun C' sh H Cc cl fp x23 => et_niO flatS 4 (ex_var 8 (⟨rfl, ⟨rfl, wk_refl⟩⟩)), fun C' sh H Cc cl fp x23 => ex_var 8 (⟨rfl, wk_refl⟩)⟩, fun C' sh H Cc cl fp x19 => ex_op2 o_catT (ex_str (ex_callT b_strI T.str_ bt_str (ea_one (ex_var 7 (⟨_, rfl, fun v20 => ⟨_, rfl, fun v21 => ⟨rfl, wk_refl⟩⟩⟩)))))⟩⟩))))))))))))) S__law_names.nd), gk_nil (⟨_, rfl, wk_refl⟩)⟩⟩⟩)))))) (fun s17 => gk_one (gs_expr (ex_own 4 m_append PySem.F.slot_list_append PySem.F.type_list_append (ea_one (ex_var 6 (⟨rfl, _, rfl, fun v26 => ⟨_, rfl, wk_drops [5, 6]⟩⟩)))))))))⟩⟩⟩)⟩))))))))))))))))))) .never))) S__law_names.nd), fun s4 => gk_one (gs_retOL 4 9 rfl hB)⟩⟩))) .never)))) S__law_names.nd)⟩))))))))))))))))))) S__law_names.nd)⟩) S__law_names.nd)
theorem S__law_low : FnScope ["n", "d", "a", "b"] ["n", "d"] (defScope st__law_low) := ⟨rfl, rfl, rfl, by decide +kernel, rfl, by decide +kernel, by decide +kernel⟩
theorem ok__law_low {fa : Addr} {fd : FuncData} (T : Txt w K mg) (F : FunD K "_law_low" "_law_low" (defArgs st__law_low) (defBody st__law_low) (defScope st__law_low) [] [] fa fd) (hm : mg "_law_low" = some (.ref fa)) : FnP P w K mg base "_law_low" 1 ["n", "d"] (spP K (tcC cInt (tc1 cInt)) (fun x => m_law_low x.1 x.2) (cTup (tcC cInt (tc1 cInt)))) := by
  refine fnp_of hm F (fn_top (fun _ => False) (fun _ h => h.elim) F S__law_low (penC pen1) (fun x => [.im cInt x.1, .im cInt x.2, .no, .no]) fun cdv A outer s H E hr C hB x => ?_) (fun _ _ _ _ _ _ us hl => match us, hl with | [_, _], _ => rfl)
  obtain ⟨a_n, a_d⟩ := x
  show GK _ C _ _ (m_law_low a_n a_d) _
  unfold m_law_low
  exact (gk_cons (gs_let 2 (ex_callBT b_abs T.abs_ bt_abs (ea_one (ex_var 0 (⟨_, rfl, fun a_1 => gk_cons (gs_let 3 (ex_callBT b_abs T.abs_ bt_abs (ea_one (ex_var 1 (⟨_, rfl, fun b_2 => gk_cons (gs_while _ _ _ _ (fun (s3 : (Int × Int)) => [.im cInt a_n, .im cInt a_d, .im cInt s3.1, .im cInt s3.2]) rfl (wk_refl) (fun s3 => et_cmp o_gt (ex_var 3 (ex_int (⟨_, rfl, wk_refl, gk_one (gs_par 2 3 rfl S__law_low.nd (ea_cons (ex_var 3 (ea_one (ex_op2 o_mod (ex_callTT b_int T.int_ bt_int (ea_one (ex_var 2 (ex_var 3 (⟨_, rfl, fun v4 => ⟨_, rfl, wk_refl⟩⟩))))))))))⟩)))) (fun s3 => gk_cons (gk_join (fun (s5 : Int) => [.im cInt a_n, .im cInt a_d, .im cInt s5, .im cInt s3.2]) rfl (gs_if2 (et_cmp o_lt (ex_var 1 (ex_int (⟨_, _, rfl, gk_one (gs_let 2 (ex_op2T o_sub (ex_int (ex_var 2 (⟨_, rfl, fun a_6 => ⟨_, rfl, wk_refl⟩⟩)))) S__law_low.nd), gk_nil (⟨_, rfl, wk_refl⟩)⟩))))) (fun s5 => gk_one (gs_ret (ex_tup (ea_cons (ex_op2 o_fdiv (ex_var 0 (ex_var 2 (⟨_, rfl, fun v7 => ea_one (ex_op2 o_fdiv (ex_var 1 (ex_var 2 (⟨_, rfl, fun v8 => rfl⟩))))⟩)))))))))) (fun _ => rfl) .never)⟩)))) S__law_low.nd)⟩)))) S__law_low.nd))
theorem S__law_place : FnScope ["world", "ref", "at", "thing"] ["world", "ref"] (defScope st__law_place) := ⟨rfl, rfl, rfl, by decide +kernel, rfl, by decide +kernel, by decide +kernel⟩
theorem ok__law_place {fa : Addr} {fd : FuncData} (T : Txt w K mg) (F : FunD K "_law_place" "_law_place" (defArgs st__law_place) (defBody st__law_place) (defScope st__law_place) [] [] fa fd) (hm : mg "_law_place" = some (.ref fa)) : FnP P w K mg base "_law_place" 1 ["world", "ref"] (spP K (tcC (cTup (tcC (cTup (tcC cInt (tcC cInt (tcC cInt (tc1 (cSeq (cTup (tcC cStr (tcC cStr (tc1 cBool)))))))))) (tcC cInt (tc1 (cLst (cLst (cTup (tcC cInt (tcC cInt (tcC cInt (tc1 cInt))))))))))) (tc1 (cTup (tcC cStr (tc1 cInt))))) (fun x => m_law_place x.1 x.2) (cLst (cTup (tcC cInt (tcC cInt (tcC cInt (tc1 cInt))))))) := by
  refine fnp_of hm F (fn_top (fun _ => False) (fun _ h => h.elim) F S__law_place (penC pen1) (fun x => [.im (cTup (tcC (cTup (tcC cInt (tcC cInt (tcC cInt (tc1 (cSeq (cTup (tcC cStr (tcC cStr (tc1 cBool)))))))))) (tcC cInt (tc1 (cLst (cLst (cTup (tcC cInt (tcC cInt (tcC cInt (tc1 cInt))))))))))) x.1, .im (cTup (tcC cStr (tc1 cInt))) x.2, .no, .no]) fun cdv A outer s H E hr C hB x => ?_) (fun _ _ _ _ _ _ us hl => match us, hl with | [_, _], _ => rfl)
  obtain ⟨a_world, a_ref⟩ := x
  show GK _ C _ _ (m_law_place a_world a_ref) _
  unfold m_law_place
  exact (gk_cons (gs_set 2 (ex_idxL flatS (ex_froz (ef_lc rfl S__law_place.nd (lc_map (c := (cTup (tcC cStr (tcC cStr (tc1 cBool))))) (d := cStr) (ws := [3]) (up := fun Γ (x : (Str × Str × Bool)) => (Γ.set 3 (.im (cTup (tcC cStr (tcC cStr (tc1 cBool)))) x))) (blkOk_by (own := [("thing", 3)]) (by kernel_rfl)) (fun C' sh H Cc cl fp => (ag_name 3 S__law_place.nd)) (ei_seq (ex_ixT (i := 3) (nthS (nthS (nthS nthL))) (ex_ixT (i := 0) nthZ (ex_var 0 (⟨_, _, rfl, fun ys2 => ex_ixT (i := 0) nthZ (ex_var 1 (⟨_, rfl, fun v3 => gk_cons (gs_set 3 (ex_ixS (ex_ixT (i := 3) (nthS (nthS (nthS nthL))) (ex_ixT (i := 0) nthZ (ex_var 0 (ex_var 2 (⟨_, rfl, fun v4 => gk_cons (gs_ifR (et_cmp o_eqS (ex_ixT (i := 1) (nthS nthZ) (ex_var 3 (ex_str (⟨_, _, rfl, gk_one (gs_ret (ex_ixL (ex_ixT (i := 2) (nthS (nthS nthL)) (ex_var 0 (ex_var 2 (⟨_, rfl, fun v5 => rfl⟩)))))), gk_one (gs_ret (ex_froz (ef_lst (el_cons (ex_ixL (ex_ixL (ex_ixT (i := 2) (nthS (nthS nthL)) (ex_var 0 (ex_var 2 (⟨_, rfl, fun v6 => ex_ifT (et_val (ex_ixT (i := 2) (nthS (nthS nthL)) (ex_var 3 (⟨a_ref.2, (0 : Int), ex_ixT (i := 1) (nthS nthL) (ex_var 1 (fin wk_refl)), ex_int (fin wk_refl), ⟨_, rfl, fun v7 => el_nil (rfl)⟩⟩))))⟩))))))))))⟩))))))⟩)))))) S__law_place.nd)⟩)), fun C' sh H Cc cl fp x1 => ex_ixT (i := 0) nthZ (ex_var 3 (⟨rfl, wk_refl⟩))⟩))))))))) S__law_place.nd))
theorem S__law_sort : FnScope ["world", "name", "thing"] ["world", "name"] (defScope st__law_sort) := ⟨rfl, rfl, rfl, by decide +kernel, rfl, by decide +kernel, by decide +kernel⟩
theorem ok__law_sort {fa : Addr} {fd : FuncData} (T : Txt w K mg) (F : FunD K "_law_sort" "_law_sort" (defArgs st__law_sort) (defBody st__law_sort) (defScope st__law_sort) [] [] fa fd) (hm : mg "_law_sort" = some (.ref fa)) : FnP P w K mg base "_law_sort" 1 ["world", "name"] (spP K (tcC (cTup (tcC (cTup (tcC cInt (tcC cInt (tcC cInt (tc1 (cSeq (cTup (tcC cStr (tcC cStr (tc1 cBool)))))))))) (tcC cInt (tc1 cU)))) (tc1 cStr)) (fun x => m_law_sort x.1 x.2) cStr) := by
  refine fnp_of hm F (fn_top (fun _ => False) (fun _ h => h.elim) F S__law_sort (penC pen1) (fun x => [.im (cTup (tcC (cTup (tcC cInt (tcC cInt (tcC cInt (tc1 (cSeq (cTup (tcC cStr (tcC cStr (tc1 cBool)))))))))) (tcC cInt (tc1 cU)))) x.1, .im cStr x.2, .no]) fun cdv A outer s H E hr C hB x => ?_) (fun _ _ _ _ _ _ us hl => match us, hl with | [_, _], _ => rfl)
  obtain ⟨a_world, a_name⟩ := x
  show GK _ C _ _ (m_law_sort a_world a_name) _
  unfold m_law_sort
  exact (gk_one (gs_ret (ex_ixL (ex_froz (ef_lc rfl S__law_sort.nd (lc_flt (c := (cTup (tcC cStr (tcC cStr (tc1 cBool))))) (d := cStr) (ws := [2]) (up := fun Γ (x : (Str × Str × Bool)) => (Γ.set 2 (.im (cTup (tcC cStr (tcC cStr (tc1 cBool)))) x))) (blkOk_by (own := [("thing", 2)]) (by kernel_rfl)) (fun C' sh H Cc cl fp => (ag_name 2 S__law_sort.nd)) (ei_seq (ex_ixT (i := 3) (nthS (nthS (nthS nthL))) (ex_ixT (i := 0) nthZ (ex_var 0 (⟨_, _, _, rfl, fun ys2 => ex_int (⟨_, rfl, fun v3 => rfl⟩), fun C' sh H Cc cl fp x1 => et_cmp o_eqS (ex_ixT (i := 0) nthZ (ex_var 2 (ex_var 1 (⟨rfl, wk_refl⟩)))), fun C' sh H Cc cl fp x1 => ex_ixT (i := 1) (nthS nthZ) (ex_var 2 (⟨rfl, wk_refl⟩))⟩)))))))))))
theorem S__law_point : FnScope ["boxes", "x", "y", "box"] ["boxes", "x", "y"] (defScope st__law_point) := ⟨rfl, rfl, rfl, by decide +kernel, rfl, by decide +kernel, by decide +kernel⟩
theorem ok__law_point {fa : Addr} {fd : FuncData} (T : Txt w K mg) (F : FunD K "_law_point" "_law_point" (defArgs st__law_point) (defBody st__law_point) (defScope st__law_point) [] [] fa fd) (hm : mg "_law_point" = some (.ref fa)) : FnP P w K mg base "_law_point" 1 ["boxes", "x", "y"] (spP K (tcC (cLst (cTup (tcC cInt (tcC cInt (tcC cInt (tc1 cInt)))))) (tcC cInt (tc1 cInt))) (fun x => m_law_point x.1 x.2.1 x.2.2) cBool) := by
  refine fnp_of hm F (fn_top (fun _ => False) (fun _ h => h.elim) F S__law_point (penC (penC pen1)) (fun x => [.im (cLst (cTup (tcC cInt (tcC cInt (tcC cInt (tc1 cInt)))))) x.1, .im cInt x.2.1, .im cInt x.2.2, .no]) fun cdv A outer s H E hr C hB x => ?_) (fun _ _ _ _ _ _ us hl => match us, hl with | [_, _, _], _ => rfl)
  obtain ⟨a_boxes, a_x, a_y⟩ := x
  show GK _ C _ _ (m_law_point a_boxes a_x a_y) _
  unfold m_law_point
  exact (gk_cons (gs_forF (c := (cTup (tcC cInt (tcC cInt (tcC cInt (tc1 cInt)))))) (fun (s1 : Unit) => [.im (cLst (cTup (tcC cInt (tcC cInt (tcC cInt (tc1 cInt)))))) a_boxes, .im cInt a_x, .im cInt a_y, .no]) rfl (ag_name 3 S__law_point.nd) (ei_lst (ex_var 0 (⟨_, _, _, rfl, wk_refl, fun x2 s1 => gk_one (gs_ifR (et_w (ew_andT (et_cmp o_le (ex_ixT (i := 0) nthZ (ex_var 3 (ex_var 1 (⟨((decide (a_x ≤ x2.2.2.1)) && ((decide (x2.2.1 ≤ a_y)) && (decide (a_y ≤ x2.2.2.2)))), ew_andT (et_cmp o_le (ex_var 1 (ex_ixT (i := 2) (nthS (nthS nthZ)) (ex_var 3 (⟨((decide (x2.2.1 ≤ a_y)) && (decide (a_y ≤ x2.2.2.2))), ew_andT (et_cmp o_le (ex_ixT (i := 1) (nthS nthZ) (ex_var 3 (ex_var 2 (⟨(decide (a_y ≤ x2.2.2.2)), ew_and1 (et_cmp o_le (ex_var 2 (ex_ixT (i := 3) (nthS (nthS (nthS nthL))) (ex_var 3 (fin wk_refl))))), fin wk_refl⟩))))), fin wk_refl⟩))))), ⟨_, _, rfl, gk_one (gs_ret (ex_bl (rfl))), ⟨_, rfl, wk_drops [3]⟩⟩⟩)))))))), fun s1 => gk_one (gs_ret (ex_bl (rfl))), fun _ => rfl⟩))) .never))
theorem S__law_covered : FnScope ["boxes", "x", "y", "box"] ["boxes", "x", "y"] (defScope st__law_covered) := ⟨rfl, rfl, rfl, by decide +kernel, rfl, by decide +kernel, by decide +kernel⟩
theorem ok__law_covered {fa : Addr} {fd : FuncData} (T : Txt w K mg) (F : FunD K "_law_covered" "_law_covered" (defArgs st__law_covered) (defBody st__law_covered) (defScope st__law_covered) [] [] fa fd) (hm : mg "_law_covered" = some (.ref fa)) : FnP P w K mg base "_law_covered" 1 ["boxes", "x", "y"] (spP K (tcC (cLst (cTup (tcC cInt (tcC cInt (tcC cInt (tc1 cInt)))))) (tcC cInt (tc1 cInt))) (fun x => m_law_covered x.1 x.2.1 x.2.2) cBool) := by
  refine fnp_of hm F (fn_top (fun _ => False) (fun _ h => h.elim) F S__law_covered (penC (penC pen1)) (fun x => [.im (cLst (cTup (tcC cInt (tcC cInt (tcC cInt (tc1 cInt)))))) x.1, .im cInt x.2.1, .im cInt x.2.2, .no]) fun cdv A outer s H E hr C hB x => ?_) (fun _ _ _ _ _ _ us hl => match us, hl with | [_, _, _], _ => rfl)
  obtain ⟨a_boxes, a_x, a_y⟩ := x
  show GK _ C _ _ (m_law_covered a_boxes a_x a_y) _
  unfold m_law_covered
  exact (gk_cons (gs_forF (c := (cTup (tcC cInt (tcC cInt (tcC cInt (tc1 cInt)))))) (fun (s1 : Unit) => [.im (cLst (cTup (tcC cInt (tcC cInt (tcC cInt (tc1 cInt)))))) a_boxes, .im cInt a_x, .im cInt a_y, .no]) rfl (ag_name 3 S__law_covered.nd) (ei_lst (ex_var 0 (⟨_, _, _, rfl, wk_refl, fun x2 s1 => gk_one (gs_ifR (et_w (ew_and (fun (c : Bool) => c) (fun _ => [.im (cLst (cTup (tcC cInt (tcC cInt (tcC cInt (tc1 cInt)))))) a_boxes, .im cInt a_x, .im cInt a_y, .im (cTup (tcC cInt (tcC cInt (tcC cInt (tc1 cInt))))) x2]) (et_cmp o_lt (ex_op2 o_mul (ex_int (ex_ixT (i := 0) nthZ (ex_var 3 (⟨_, rfl, fun v3 => ex_var 1 (⟨_, false, _, rfl, rfl, wk_refl, ew_and (fun (c : Bool) => c) (fun _ => [.im (cLst (cTup (tcC cInt (tcC cInt (tcC cInt (tc1 cInt)))))) a_boxes, .im cInt a_x, .im cInt a_y, .im (cTup (tcC cInt (tcC cInt (tcC cInt (tc1 cInt))))) x2]) (et_cmp o_lt (ex_var 1 (ex_op2 o_mul (ex_int (ex_ixT (i := 2) (nthS (nthS nthZ)) (ex_var 3 (⟨_, rfl, fun v4 => ⟨_, false, _, rfl, rfl, wk_refl, ew_and (fun (c : Bool) => c) (fun _ => [.im (cLst (cTup (tcC cInt (tcC cInt (tcC cInt (tc1 cInt)))))) a_boxes, .im cInt a_x, .im cInt a_y, .im (cTup (tcC cInt (tcC cInt (tcC cInt (tc1 cInt))))) x2]) (et_cmp o_lt (ex_op2 o_mul (ex_int (ex_ixT (i := 1) (nthS nthZ) (ex_var 3 (⟨_, rfl, fun v5 => ex_var 2 (⟨_, false, _, rfl, rfl, wk_refl, ew_and1 (et_cmp o_lt (ex_var 2 (ex_op2 o_mul (ex_int (ex_ixT (i := 3) (nthS (nthS (nthS nthL))) (ex_var 3 (⟨_, rfl, fun v6 => fin wk_refl⟩))))))), fun c7 => fin wk_refl⟩)⟩)))))), fun c8 => fin wk_refl⟩⟩))))))), fun c9 => ⟨_, _, rfl, gk_one (gs_ret (ex_bl (rfl))), ⟨_, rfl, wk_drops [3]⟩⟩⟩)⟩))))))))), fun s1 => gk_one (gs_ret (ex_bl (rfl))), fun _ => rfl⟩))) .never))
theorem S__law_inner : FnScope ["boxes", "x", "y", "step"] ["boxes", "x", "y"] (defScope st__law_inner) := ⟨rfl, rfl, rfl, by decide +kernel, rfl, by decide +kernel, by decide +kernel⟩
theorem ok__law_inner {fa : Addr} {fd : FuncData} (T : Txt w K mg) (F : FunD K "_law_inner" "_law_inner" (defArgs st__law_inner) (defBody st__law_inner) (defScope st__law_inner) [] [] fa fd) (hm : mg "_law_inner" = some (.ref fa)) (F__law_covered : FnP P w K mg base "_law_covered" (1) ["boxes", "x", "y"] (spP K (tcC (cLst (cTup (tcC cInt (tcC cInt (tcC cInt (tc1 cInt)))))) (tcC cInt (tc1 cInt))) (fun x => m_law_covered x.1 x.2.1 x.2.2) cBool)) : FnP P w K mg base "_law_inner" 2 ["boxes", "x", "y"] (spP K (tcC (cLst (cTup (tcC cInt (tcC cInt (tcC cInt (tc1 cInt)))))) (tcC cInt (tc1 cInt))) (fun x => m_law_inner x.1 x.2.1 x.2.2) cBool) := by
  refine fnp_of hm F (fn_top (fun _ => False) (fun _ h => h.elim) F S__law_inner (penC (penC pen1)) (fun x => [.im (cLst (cTup (tcC cInt (tcC cInt (tcC cInt (tc1 cInt)))))) x.1, .im cInt x.2.1, .im cInt x.2.2, .no]) fun cdv A outer s H E hr C hB x => ?_) (fun _ _ _ _ _ _ us hl => match us, hl with | [_, _, _], _ => rfl)
  obtain ⟨a_boxes, a_x, a_y⟩ := x
  show GK _ C _ _ (m_law_inner a_boxes a_x a_y) _
  unfold m_law_inner
  exact (gk_cons (gs_forF (c := (cTup (tcC cInt (tc1 cInt)))) (fun (s1 : Unit) => [.im (cLst (cTup (tcC cInt (tcC cInt (tcC cInt (tc1 cInt)))))) a_boxes, .im cInt a_x, .im cInt a_y, .no]) rfl (ag_name 3 S__law_inner.nd) (ei_lst (ex_froz (ef_lst (el_cons (ex_tup (ea_cons (ex_int (ea_one (ex_int (el_cons (ex_tup (ea_cons (ex_neg (ex_int (ea_one (ex_int (el_cons (ex_tup (ea_cons (ex_int (ea_one (ex_neg (ex_int (el_cons (ex_tup (ea_cons (ex_neg (ex_int (ea_one (ex_neg (ex_int (el_nil (⟨_, _, _, rfl, wk_refl, fun x2 s1 => gk_one (gs_ifR (ew_not (et_val (ex_call F__law_covered (hr.mono (by decide)) (ea_cons (ex_var 0 (ea_cons (ex_op2T o_add (ex_op2 o_mul (ex_int (ex_var 1 (⟨_, rfl, fun v3 => ex_ixT (i := 0) nthZ (ex_var 3 (ea_one (ex_op2T o_add (ex_op2 o_mul (ex_int (ex_var 2 (⟨_, rfl, fun v4 => ex_ixT (i := 1) (nthS nthL) (ex_var 3 (⟨_, rfl, fun v5 => ⟨_, _, rfl, gk_one (gs_ret (ex_bl (rfl))), ⟨_, rfl, wk_drops [3]⟩⟩⟩))⟩)))))))⟩)))))))))))), fun s1 => gk_one (gs_ret (ex_bl (rfl))), fun _ => rfl⟩))))))))))))))))))))))))))))))))) .never))
theorem S__law_cuts : FnScope ["boxes", "low", "told", "k", "box"] ["boxes", "low"] (defScope st__law_cuts) := ⟨rfl, rfl, rfl, by decide +kernel, rfl, by decide +kernel, by decide +kernel⟩
theorem ok__law_cuts {fa : Addr} {fd : FuncData} (T : Txt w K mg) (F : FunD K "_law_cuts" "_law_cuts" (defArgs st__law_cuts) (defBody st__law_cuts) (defScope st__law_cuts) [] [] fa fd) (hm : mg "_law_cuts" = some (.ref fa)) : FnP P w K mg base "_law_cuts" 1 ["boxes", "low"] (spP K (tcC (cLst (cTup (tcC cInt (tcC cInt (tcC cInt (tc1 cInt)))))) (tc1 cInt)) (fun x => m_law_cuts x.1 x.2) (cLst cInt)) := by
  refine fnp_of hm F (fn_top (fun _ => False) (fun _ h => h.elim) F S__law_cuts (penC pen1) (fun x => [.im (cLst (cTup (tcC cInt (tcC cInt (tcC cInt (tc1 cInt)))))) x.1, .im cInt x.2, .no, .no, .no]) fun cdv A outer s H E hr C hB x => ?_) (fun _ _ _ _ _ _ us hl => match us, hl with | [_, _], _ => rfl)
  obtain ⟨a_boxes, a_low⟩ := x
  show GK _ C _ _ (m_law_cuts a_boxes a_low) _
  unfold m_law_cuts
  exact (gk_cons (gs_set 2 (ex_froz (ef_sortSet rfl T.sorted_ T.set_ (ex_op2 o_catL (ex_froz (ef_lc rfl S__law_cuts.nd (lc_map (c := (cTup (tcC cInt (tcC cInt (tcC cInt (tc1 cInt)))))) (d := cInt) (ws := [4]) (up := fun Γ (x : (Int × Int × Int × Int)) => (Γ.set 4 (.im (cTup (tcC cInt (tcC cInt (tcC cInt (tc1 cInt))))) x))) (blkOk_by (own := [("box", 4)]) (by kernel_rfl)) (fun C' sh H Cc cl fp => (ag_name 4 S__law_cuts.nd)) (ei_lst (ex_var 0 (⟨_, _, rfl, fun ys3 => ex_froz (ef_lc rfl S__law_cuts.nd (lc_map (c := (cTup (tcC cInt (tcC cInt (tcC cInt (tc1 cInt)))))) (d := cInt) (ws := [4]) (up := fun Γ (x : (Int × Int × Int × Int)) => (Γ.set 4 (.im (cTup (tcC cInt (tcC cInt (tcC cInt (tc1 cInt))))) x))) (blkOk_by (own := [("box", 4)]) (by kernel_rfl)) (fun C' sh H Cc cl fp => (ag_name 4 S__law_cuts.nd)) (ei_lst (ex_var 0 (⟨_, _, rfl, fun ys6 => ⟨_, rfl, fun v7 => ⟨_, rfl, fun v8 => gk_one (gs_ret (ex_op2 o_catL (ex_var 2 (ex_froz (ef_lc rfl S__law_cuts.nd (lc_map (c := cInt) (d := cInt) (ws := [3]) (up := fun Γ (x : Int) => (Γ.set 3 (.im cInt x))) (blkOk_by (own := [("k", 3)]) (by kernel_rfl)) (fun C' sh H Cc cl fp => (ag_name 3 S__law_cuts.nd)) (ei_rng1 T.range_ (ex_op2T o_sub (ex_callBT b_lenL T.len_ bt_len (ea_one (ex_var 2 (ex_int (⟨_, rfl, fun v9 => ⟨_, _, rfl, fun ys14 => ⟨_, rfl, fun v15 => rfl⟩, fun C' sh H Cc cl fp x10 => ex_op2 o_fdiv (ex_op2T o_add (ex_ixL (ex_var 2 (ex_var 3 (⟨_, rfl, fun v11 => ex_ixL (ex_var 2 (ex_op2T o_add (ex_var 3 (ex_int (⟨_, rfl, fun v12 => ex_int (⟨_, rfl, fun v13 => ⟨rfl, wk_refl⟩⟩)⟩)))))⟩)))))⟩⟩)))))))))))))⟩⟩, fun C' sh H Cc cl fp x4 => ex_ixS (ex_tsq (tsqC (tsqC (tsqC tsq1))) (ex_var 4 (ex_op2T o_add (ex_var 1 (ex_int (⟨_, rfl, fun v5 => ⟨rfl, wk_refl⟩⟩))))))⟩))))), fun C' sh H Cc cl fp x1 => ex_ixS (ex_tsq (tsqC (tsqC (tsqC tsq1))) (ex_var 4 (ex_var 1 (⟨_, rfl, fun v2 => ⟨rfl, wk_refl⟩⟩))))⟩))))))))) S__law_cuts.nd))
theorem S__law_few : FnScope ["boxes", "few", "across", "x", "y"] ["boxes"] (defScope st__law_few) := ⟨rfl, rfl, rfl, by decide +kernel, rfl, by decide +kernel, by decide +kernel⟩
theorem ok__law_few {fa : Addr} {fd : FuncData} (T : Txt w K mg) (F : FunD K "_law_few" "_law_few" (defArgs st__law_few) (defBody st__law_few) (defScope st__law_few) [] [] fa fd) (hm : mg "_law_few" = some (.ref fa)) (F__law_cuts : FnP P w K mg base "_law_cuts" (1) ["boxes", "low"] (spP K (tcC (cLst (cTup (tcC cInt (tcC cInt (tcC cInt (tc1 cInt)))))) (tc1 cInt)) (fun x => m_law_cuts x.1 x.2) (cLst cInt))) : FnP P w K mg base "_law_few" 2 ["boxes"] (spP K (tc1 (cLst (cTup (tcC cInt (tcC cInt (tcC cInt (tc1 cInt))))))) (fun x => m_law_few x) (cLst (cTup (tcC cInt (tc1 cInt))))) := by
  refine fnp_of hm F (fn_top (fun _ => False) (fun _ h => h.elim) F S__law_few pen1 (fun x => [.im (cLst (cTup (tcC cInt (tcC cInt (tcC cInt (tc1 cInt)))))) x, .no, .no, .no, .no]) fun cdv A outer s H E hr C hB a_boxes => ?_) (fun _ _ _ _ _ _ us hl => match us, hl with | [_], _ => rfl)
  show GK _ C _ _ (m_law_few a_boxes) _
  unfold m_law_few
  exact (gk_cons (gs_setN (c := (lstC (cTup (tcC cInt (tc1 cInt))))) 1 (ef_lst (el_nil (gk_cons (gs_set 2 (ex_call F__law_cuts (hr.mono (by decide)) (ea_cons (ex_var 0 (ea_one (ex_int (⟨_, rfl, fun v1 => gk_cons (gs_forS (c := cInt) (fun (s3 : (List (Int × Int))) => [.im (cLst (cTup (tcC cInt (tcC cInt (tcC cInt (tc1 cInt)))))) a_boxes, .ow (lstC (cTup (tcC cInt (tc1 cInt)))) s3, .im (cLst cInt) v1, .no, .no]) rfl (ag_name 3 S__law_few.nd) (ei_lst (ex_call F__law_cuts (hr.mono (by decide)) (ea_cons (ex_var 0 (ea_one (ex_int (⟨_, rfl, fun v2 => ⟨_, _, _, rfl, wk_refl, fun x4 s3 => gk_one (gs_forS (c := cInt) (fun (s5 : (List (Int × Int))) => [.im (cLst (cTup (tcC cInt (tcC cInt (tcC cInt (tc1 cInt)))))) a_boxes, .ow (lstC (cTup (tcC cInt (tc1 cInt)))) s5, .im (cLst cInt) v1, .im cInt x4, .no]) rfl (ag_name 4 S__law_few.nd) (ei_lst (ex_var 2 (⟨_, _, _, rfl, wk_refl, fun x6 s5 => gk_one (gs_expr (ex_own 1 m_append PySem.F.slot_list_append PySem.F.type_list_append (ea_one (ex_tup (ea_cons (ex_var 3 (ea_one (ex_var 4 (⟨rfl, _, rfl, fun v7 => ⟨_, rfl, wk_drops [4]⟩⟩))))))))), fun s5 => ⟨_, rfl, wk_drops [3]⟩⟩))) .never), fun s3 => gk_wk (wk_freeze (Γ' := [.im (cLst (cTup (tcC cInt (tcC cInt (tcC cInt (tc1 cInt)))))) a_boxes, .im (cLst (cTup (tcC cInt (tc1 cInt)))) s3, .im (cLst cInt) v1, .no, .no]) 1 hB) (gk_one (gs_ret (ex_var 1 (rfl))))⟩⟩))))))) .never)⟩)))))) S__law_few.nd)))) S__law_few.nd))
theorem S__law_lap : FnScope ["one", "two", "p", "q", "x", "y"] ["one", "two"] (defScope st__law_lap) := ⟨rfl, rfl, rfl, by decide +kernel, rfl, by decide +kernel, by decide +kernel⟩
theorem ok__law_lap {fa : Addr} {fd : FuncData} (T : Txt w K mg) (F : FunD K "_law_lap" "_law_lap" (defArgs st__law_lap) (defBody st__law_lap) (defScope st__law_lap) [] [] fa fd) (hm : mg "_law_lap" = some (.ref fa)) (F__law_few : FnP P w K mg base "_law_few" (2) ["boxes"] (spP K (tc1 (cLst (cTup (tcC cInt (tcC cInt (tcC cInt (tc1 cInt))))))) (fun x => m_law_few x) (cLst (cTup (tcC cInt (tc1 cInt)))))) (F__law_point : FnP P w K mg base "_law_point" (1) ["boxes", "x", "y"] (spP K (tcC (cLst (cTup (tcC cInt (tcC cInt (tcC cInt (tc1 cInt)))))) (tcC cInt (tc1 cInt))) (fun x => m_law_point x.1 x.2.1 x.2.2) cBool)) (F__law_inner : FnP P w K mg base "_law_inner" (2) ["boxes", "x", "y"] (spP K (tcC (cLst (cTup (tcC cInt (tcC cInt (tcC cInt (tc1 cInt)))))) (tcC cInt (tc1 cInt))) (fun x => m_law_inner x.1 x.2.1 x.2.2) cBool)) : FnP P w K mg base "_law_lap" 3 ["one", "two"] (spP K (tcC (cLst (cTup (tcC cInt (tcC cInt (tcC cInt (tc1 cInt)))))) (tc1 (cLst (cTup (tcC cInt (tcC cInt (tcC cInt (tc1 cInt)))))))) (fun x => m_law_lap x.1 x.2) cBool) := by
  refine fnp_of hm F (fn_top (fun _ => False) (fun _ h => h.elim) F S__law_lap (penC pen1) (fun x => [.im (cLst (cTup (tcC cInt (tcC cInt (tcC cInt (tc1 cInt)))))) x.1, .im (cLst (cTup (tcC cInt (tcC cInt (tcC cInt (tc1 cInt)))))) x.2, .no, .no, .no, .no]) fun cdv A outer s H E hr C hB x => ?_) (fun _ _ _ _ _ _ us hl => match us, hl with | [_, _], _ => rfl)
  obtain ⟨a_one, a_two⟩ := x
  show GK _ C _ _ (m_law_lap a_one a_two) _
  unfold m_law_lap
  exact (gk_cons (gs_ifR (et_w (ew_andT (et_cmp o_eq (ex_callBT b_lenL T.len_ bt_len (ea_one (ex_var 0 (ex_int (⟨(decide ((a_two.length : Int) = (1 : Int))), ew_and1 (et_cmp o_eq (ex_callBT b_lenL T.len_ bt_len (ea_one (ex_var 1 (ex_int (fin wk_refl)))))), ⟨_, _, rfl, gk_cons (gs_set 2 (ex_ixL (ex_var (c := (cLst (cTup (tcC cInt (tcC cInt (tcC cInt (tc1 cInt))))))) (x := a_one) 0 (ex_int (⟨_, rfl, fun v1 => gk_cons (gs_set 3 (ex_ixL (ex_var (c := (cLst (cTup (tcC cInt (tcC cInt (tcC cInt (tc1 cInt))))))) (x := a_two) 1 (ex_int (⟨_, rfl, fun v2 => gk_cons (gs_ifR (et_w (ew_andT (et_w (ew_orT (et_cmp o_eq (ex_ixT (i := 0) nthZ (ex_var 2 (ex_ixT (i := 2) (nthS (nthS nthZ)) (ex_var 2 (⟨(decide (v1.2.1 = v1.2.2.2)), ew_or1 (et_cmp o_eq (ex_ixT (i := 1) (nthS nthZ) (ex_var 2 (ex_ixT (i := 3) (nthS (nthS (nthS nthL))) (ex_var 2 (fin wk_refl)))))), ⟨((decide (v2.1 = v2.2.2.1)) || (decide (v2.2.1 = v2.2.2.2))), ew_and1 (et_w (ew_orT (et_cmp o_eq (ex_ixT (i := 0) nthZ (ex_var 3 (ex_ixT (i := 2) (nthS (nthS nthZ)) (ex_var 3 (⟨(decide (v2.2.1 = v2.2.2.2)), ew_or1 (et_cmp o_eq (ex_ixT (i := 1) (nthS nthZ) (ex_var 3 (ex_ixT (i := 3) (nthS (nthS (nthS nthL))) (ex_var 3 (fin wk_refl)))))), fin wk_refl⟩)))))))), ⟨_, _, rfl, gk_one (gs_ret (ex_bl (rfl))), gk_one (gs_ret (ex_andT (ex_cmp o_lt (ex_ixT (i := 0) nthZ (ex_var 2 (ex_ixT (i := 2) (nthS (nthS nthZ)) (ex_var 3 (⟨((decide (v2.1 < v1.2.2.1)) && ((decide (v1.2.1 < v2.2.2.2)) && (decide (v2.2.1 < v1.2.2.2)))), ex_andT (ex_cmp o_lt (ex_ixT (i := 0) nthZ (ex_var 3 (ex_ixT (i := 2) (nthS (nthS nthZ)) (ex_var 2 (⟨((decide (v1.2.1 < v2.2.2.2)) && (decide (v2.2.1 < v1.2.2.2))), ex_andT (ex_cmp o_lt (ex_ixT (i := 1) (nthS nthZ) (ex_var 2 (ex_ixT (i := 3) (nthS (nthS (nthS nthL))) (ex_var 3 (⟨(decide (v2.2.1 < v1.2.2.2)), ex_one (ex_cmp o_lt (ex_ixT (i := 1) (nthS nthZ) (ex_var 3 (ex_ixT (i := 3) (nthS (nthS (nthS nthL))) (ex_var 2 (fin wk_refl)))))), fin wk_refl⟩)))))), fin wk_refl⟩)))))), rfl⟩))))))))⟩⟩⟩)))))))))))⟩)))) S__law_lap.nd)⟩)))) S__law_lap.nd), gk_cons (gs_forF (c := (cTup (tcC cInt (tc1 cInt)))) (fun (s5 : Unit) => [.im (cLst (cTup (tcC cInt (tcC cInt (tcC cInt (tc1 cInt)))))) a_one, .im (cLst (cTup (tcC cInt (tcC cInt (tcC cInt (tc1 cInt)))))) a_two, .no, .no, .no, .no]) rfl (ag_tup rfl (ags_cons (ag_name 4 S__law_lap.nd) (ags_one (ag_name 5 S__law_lap.nd)))) (ei_lst (ex_call F__law_few (hr.mono (by decide)) (ea_one (ex_op2 o_catL (ex_var 0 (ex_var 1 (⟨_, rfl, fun v3 => ⟨_, rfl, fun v4 => ⟨_, _, _, rfl, wk_refl, fun x6 s5 => gk_cons (gs_ifR (et_w (ew_and (fun (c : Bool) => c) (fun _ => [.im (cLst (cTup (tcC cInt (tcC cInt (tcC cInt (tc1 cInt)))))) a_one, .im (cLst (cTup (tcC cInt (tcC cInt (tcC cInt (tc1 cInt)))))) a_two, .no, .no, .im cInt x6.1, .im cInt x6.2]) (et_val (ex_call F__law_point (hr.mono (by decide)) (ea_cons (ex_var 0 (ea_cons (ex_var 4 (ea_one (ex_var 5 (⟨_, rfl, fun v7 => ⟨_, false, _, rfl, rfl, wk_refl, ew_and1 (et_val (ex_call F__law_inner (hr.mono (by decide)) (ea_cons (ex_var 1 (ea_cons (ex_var 4 (ea_one (ex_var 5 (⟨_, rfl, fun v8 => fin wk_refl⟩))))))))), fun c9 => ⟨_, _, rfl, gk_one (gs_ret (ex_bl (rfl))), gk_one (gs_ifR (et_w (ew_and (fun (c : Bool) => c) (fun _ => [.im (cLst (cTup (tcC cInt (tcC cInt (tcC cInt (tc1 cInt)))))) a_one, .im (cLst (cTup (tcC cInt (tcC cInt (tcC cInt (tc1 cInt)))))) a_two, .no, .no, .im cInt x6.1, .im cInt x6.2]) (et_val (ex_call F__law_point (hr.mono (by decide)) (ea_cons (ex_var 1 (ea_cons (ex_var 4 (ea_one (ex_var 5 (⟨_, rfl, fun v10 => ⟨_, false, _, rfl, rfl, wk_refl, ew_and1 (et_val (ex_call F__law_inner (hr.mono (by decide)) (ea_cons (ex_var 0 (ea_cons (ex_var 4 (ea_one (ex_var 5 (⟨_, rfl, fun v11 => fin wk_refl⟩))))))))), fun c12 => ⟨_, _, rfl, gk_one (gs_ret (ex_bl (rfl))), ⟨_, rfl, wk_drops [4, 5]⟩⟩⟩⟩))))))))))))⟩⟩⟩)))))))))))), fun s5 => gk_one (gs_ret (ex_bl (rfl))), fun _ => rfl⟩⟩⟩))))))) .never)⟩⟩))))))))))
theorem S__law_pairs : FnScope ["head", "told", "p", "behind", "q", "m"] ["head"] (defScope st__law_pairs) := ⟨rfl, rfl, rfl, by decide +kernel, rfl, by decide +kernel, by decide +kernel⟩
theorem ok__law_pairs {fa : Addr} {fd : FuncData} (T : Txt w K mg) (F : FunD K "_law_pairs" "_law_pairs" (defArgs st__law_pairs) (defBody st__law_pairs) (defScope st__law_pairs) [] [] fa fd) (hm : mg "_law_pairs" = some (.ref fa)) : FnP P w K mg base "_law_pairs" 1 ["head"] (spP K (tc1 (cTup (tcC cInt (tcC cInt (tcC cInt (tc1 (cSeq (cTup (tcC cStr (tcC cStr (tc1 cBool))))))))))) (fun x => m_law_pairs x) (cLst (cTup (tcC (cTup (tcC cStr (tc1 cInt))) (tc1 (cTup (tcC cStr (tc1 cInt)))))))) := by
  refine fnp_of hm F (fn_top (fun _ => False) (fun _ h => h.elim) F S__law_pairs pen1 (fun x => [.im (cTup (tcC cInt (tcC cInt (tcC cInt (tc1 (cSeq (cTup (tcC cStr (tcC cStr (tc1 cBool)))))))))) x, .no, .no, .no, .no, .no]) fun cdv A outer s H E hr C hB a_head => ?_) (fun _ _ _ _ _ _ us hl => match us, hl with | [_], _ => rfl)
  show GK _ C _ _ (m_law_pairs a_head) _
  unfold m_law_pairs
  exact (gk_cons (gs_setN (c := (lstC (cTup (tcC (cTup (tcC cStr (tc1 cInt))) (tc1 (cTup (tcC cStr (tc1 cInt)))))))) 1 (ef_lst (el_nil (gk_cons (gs_forS (c := (cTup (tcC cStr (tcC cStr (tc1 cBool))))) (fun (s1 : (List ((Str × Int) × (Str × Int)))) => [.im (cTup (tcC cInt (tcC cInt (tcC cInt (tc1 (cSeq (cTup (tcC cStr (tcC cStr (tc1 cBool)))))))))) a_head, .ow (lstC (cTup (tcC (cTup (tcC cStr (tc1 cInt))) (tc1 (cTup (tcC cStr (tc1 cInt))))))) s1, .no, .no, .no, .no]) rfl (ag_name 2 S__law_pairs.nd) (ei_seq (ex_ixT (i := 3) (nthS (nthS (nthS nthL))) (ex_var 0 (⟨_, _, _, rfl, wk_refl, fun x2 s1 => gk_cons (gs_set 3 (ex_bl (gk_one (gs_forS (c := (cTup (tcC cStr (tcC cStr (tc1 cBool))))) (fun (s3 : ((List ((Str × Int) × (Str × Int))) × Bool)) => [.im (cTup (tcC cInt (tcC cInt (tcC cInt (tc1 (cSeq (cTup (tcC cStr (tcC cStr (tc1 cBool)))))))))) a_head, .ow (lstC (cTup (tcC (cTup (tcC cStr (tc1 cInt))) (tc1 (cTup (tcC cStr (tc1 cInt))))))) s3.1, .im (cTup (tcC cStr (tcC cStr (tc1 cBool)))) x2, .im cBool s3.2, .no, .no]) rfl (ag_name 4 S__law_pairs.nd) (ei_seq (ex_ixT (i := 3) (nthS (nthS (nthS nthL))) (ex_var 0 (⟨_, _, _, rfl, wk_refl, fun x4 s3 => gk_cons (gk_join (fun (s5 : (List ((Str × Int) × (Str × Int)))) => [.im (cTup (tcC cInt (tcC cInt (tcC cInt (tc1 (cSeq (cTup (tcC cStr (tcC cStr (tc1 cBool)))))))))) a_head, .ow (lstC (cTup (tcC (cTup (tcC cStr (tc1 cInt))) (tc1 (cTup (tcC cStr (tc1 cInt))))))) s5, .im (cTup (tcC cStr (tcC cStr (tc1 cBool)))) x2, .im cBool s3.2, .im (cTup (tcC cStr (tcC cStr (tc1 cBool)))) x4, .no]) rfl (gs_if2 (et_w (ew_andT (et_cmp o_eqS (ex_ixT (i := 1) (nthS nthZ) (ex_var 2 (ex_str (⟨((decide (x4.2.1 ∈ [("upright" : Str), ("lying" : Str)])) || ((decide (x4.2.1 = ("body" : Str))) && s3.2)), ew_and1 (et_w (ew_orT (et_cmp (o_inL flatS) (ex_ixT (i := 1) (nthS nthZ) (ex_var 4 (ex_froz (ef_lst (el_cons (ex_str (el_cons (ex_str (el_nil (⟨((decide (x4.2.1 = ("body" : Str))) && s3.2), ew_or1 (et_w (ew_andT (et_cmp o_eqS (ex_ixT (i := 1) (nthS nthZ) (ex_var 4 (ex_str (⟨s3.2, ew_and1 (et_val (ex_var 3 (fin wk_refl))), fin wk_refl⟩))))))), fin wk_refl⟩))))))))))))), ⟨_, _, rfl, gk_one (gs_forS (c := cInt) (fun (s7 : (List ((Str × Int) × (Str × Int)))) => [.im (cTup (tcC cInt (tcC cInt (tcC cInt (tc1 (cSeq (cTup (tcC cStr (tcC cStr (tc1 cBool)))))))))) a_head, .ow (lstC (cTup (tcC (cTup (tcC cStr (tc1 cInt))) (tc1 (cTup (tcC cStr (tc1 cInt))))))) s7, .im (cTup (tcC cStr (tcC cStr (tc1 cBool)))) x2, .im cBool s3.2, .im (cTup (tcC cStr (tcC cStr (tc1 cBool)))) x4, .no]) rfl (ag_name 5 S__law_pairs.nd) (ei_rng1 T.range_ (ex_ifT (et_w (ew_orT (et_val (ex_ixT (i := 2) (nthS (nthS nthL)) (ex_var 2 (⟨x4.2.2, ew_or1 (et_val (ex_ixT (i := 2) (nthS (nthS nthL)) (ex_var 4 (fin wk_refl)))), ⟨a_head.2.2.1, (1 : Int), ex_ixT (i := 2) (nthS (nthS nthZ)) (ex_var 0 (fin wk_refl)), ex_int (fin wk_refl), ⟨_, rfl, fun v6 => ⟨_, _, _, rfl, wk_refl, fun x8 s7 => gk_one (gs_expr (ex_own 1 m_append PySem.F.slot_list_append PySem.F.type_list_append (ea_one (ex_tup (ea_cons (ex_tup (ea_cons (ex_ixT (i := 0) nthZ (ex_var 2 (ea_one (ex_var 5 (ea_one (ex_tup (ea_cons (ex_ixT (i := 0) nthZ (ex_var 4 (ea_one (ex_var 5 (⟨rfl, _, rfl, fun v9 => ⟨_, rfl, wk_drops [5]⟩⟩))))))))))))))))))), fun s7 => ⟨_, rfl, wk_refl⟩⟩⟩⟩⟩)))))))) .never), gk_nil (⟨_, rfl, wk_refl⟩)⟩⟩)))))))) (fun s5 => gk_one (gs_let 3 (ex_orT (ex_var 3 (⟨(decide (x4.1 = x2.1)), ex_one (ex_cmp o_eqS (ex_ixT (i := 0) nthZ (ex_var 4 (ex_ixT (i := 0) nthZ (ex_var 2 (fin wk_refl)))))), ⟨_, rfl, fun behind_10 => ⟨_, rfl, wk_drops [4]⟩⟩⟩))) S__law_pairs.nd))), fun s3 => ⟨_, rfl, wk_drops [2, 3]⟩⟩)))) .never))) S__law_pairs.nd), fun s1 => gk_wk (wk_freeze (Γ' := [.im (cTup (tcC cInt (tcC cInt (tcC cInt (tc1 (cSeq (cTup (tcC cStr (tcC cStr (tc1 cBool)))))))))) a_head, .im (cLst (cTup (tcC (cTup (tcC cStr (tc1 cInt))) (tc1 (cTup (tcC cStr (tc1 cInt))))))) s1, .no, .no, .no, .no]) 1 hB) (gk_one (gs_ret (ex_var 1 (rfl))))⟩)))) .never)))) S__law_pairs.nd))
theorem S__law_s_head : FnScope ["tape", "sorts", "moments", "names", "things", "k", "sizes"] ["tape", "sorts", "moments"] (defScope st__law_s_head) := ⟨rfl, rfl, rfl, by decide +kernel, rfl, by decide +kernel, by decide +kernel⟩
theorem ok__law_s_head {fa : Addr} {fd : FuncData} (T : Txt w K mg) (F : FunD K "_law_s_head" "_law_s_head" (defArgs st__law_s_head) (defBody st__law_s_head) (defScope st__law_s_head) [] [] fa fd) (hm : mg "_law_s_head" = some (.ref fa)) (F__law_names : FnP P w K mg base "_law_names" (3) ["tape", "many"] (spMN K celT (tc1 cInt) (fun tp x => m_law_names tp x) (lstC cStr))) (F__law_draw : FnP P w K mg base "_law_draw" (1) ["tape", "many"] (spM K celT (tc1 cInt) (fun tp x => m_law_draw tp x) cInt)) (F__law_pick : ∀ {Aa : Type} (ca : Cod K Aa), FnP P w K mg base "_law_pick" (2) ["tape", "menu"] (spM K celT (tc1 (cRow ca)) (fun tp x => m_law_pick tp x) ca)) (U__law_names : FnPU P w K mg base "_law_names" (3) ["tape", "many"] (spMN K celT (tc1 cInt) (fun tp x => m_law_names tp x) (lstC cStr))) : FnP P w K mg base "_law_s_head" 4 ["tape", "sorts", "moments"] (spM K celT (tcC (cLst cStr) (tc1 cInt)) (fun tp x => m_law_s_head tp x.1 x.2) (cTup (tcC cInt (tcC cInt (tcC cInt (tc1 (cSeq (cTup (tcC cStr (tcC cStr (tc1 cBool))))))))))) := by
  refine fnp_of hm F (fn_topL F S__law_s_head (penC pen1) (fun tp x => [.lp, .im (cLst cStr) x.1, .im cInt x.2, .no, .no, .no, .no, .ln celT tp]) fun cdv A outer s H E hr C hB tp x => ?_) (fun _ _ _ _ _ _ us hl => match us, hl with | [_, _, _], _ => rfl)
  obtain ⟨a_sorts, a_moments⟩ := x
  show GK _ C _ _ (m_law_s_head tp a_sorts a_moments) _
  unfold m_law_s_head
  exact (gk_consU (gsU_set 3 (exU_froz (efU_callL 0 7 U__law_names (hr.mono (by decide)) (ea_one (ex_callBT b_lenL T.len_ bt_len (ea_one (ex_var 1 (⟨_, rfl, rfl, _, rfl, fun v1 => gkT_cons (gsT_of (gs_setN (c := (lstC (cTup (tcC cStr (tcC cStr (tc1 cBool)))))) 4 (ef_lst (el_nil (gkT_cons (gsT_forS (c := cInt) (fun (s3 : (List (Str × Str × Bool))) => [.lp, .im (cLst cStr) a_sorts, .im cInt a_moments, .im (cLst cStr) v1.1, .ow (lstC (cTup (tcC cStr (tcC cStr (tc1 cBool))))) s3, .no, .no, .ln celT v1.2]) rfl (ag_name 5 S__law_s_head.nd) (ei_rng1 T.range_ (ex_callBT b_lenL T.len_ bt_len (ea_one (ex_var 1 (⟨_, rfl, fun v2 => ⟨_, _, _, rfl, wk_refl, fun x4 s3 => gkT_one (gsT_expr (exT_own 4 m_append PySem.F.slot_list_append PySem.F.type_list_append (eaT_one (exT_tup (eaT_cons (exT_of (ex_ixL (ex_var 3 (ex_var 5 (⟨_, rfl, fun v5 => eaT_cons (exT_repl (ex_ixL (ex_var 1 (ex_var 5 (⟨_, rfl, fun v6 => ⟨_, rfl, fun v7 => eaT_one (exT_of (ex_ends (ex_ixL (ex_var 1 (ex_var 5 (⟨_, rfl, fun v8 => ex_str (⟨rfl, _, rfl, fun v9 => ⟨_, rfl, wk_drops [5]⟩⟩)⟩))))))⟩⟩)))))⟩)))))))))), fun s3 => gkT_of (gk_cons (gs_let 6 (ex_froz (ef_lst (el_cons (ex_int (el_cons (ex_int (el_cons (ex_int (el_cons (ex_int (el_cons (ex_int (el_cons (ex_int (el_cons (ex_int (el_cons (ex_int (el_nil (⟨_, rfl, fun sizes_10 => gk_cons (gk_join (fun (s11 : ((List Int) × Tape)) => [.lp, .im (cLst cStr) a_sorts, .im cInt a_moments, .im (cLst cStr) v1.1, .ow (lstC (cTup (tcC cStr (tcC cStr (tc1 cBool))))) s3, .no, .im (cLst cInt) s11.1, .ln celT s11.2]) rfl (gs_if2 (et_cmp o_eq (ex_callL 0 7 F__law_draw (hr.mono (by decide)) (ea_one (ex_int (⟨_, rfl, rfl, _, rfl, fun v12 => ex_int (⟨_, _, rfl, gk_one (gs_let 6 (ex_froz (ef_lst (el_cons (ex_int (el_cons (ex_int (el_nil (⟨_, rfl, fun sizes_13 => ⟨_, rfl, wk_refl⟩⟩)))))))) S__law_s_head.nd), gk_nil (⟨_, rfl, wk_refl⟩)⟩)⟩)))))) (fun s11 => gk_wk (wk_freeze (Γ' := [.lp, .im (cLst cStr) a_sorts, .im cInt a_moments, .im (cLst cStr) v1.1, .im (cLst (cTup (tcC cStr (tcC cStr (tc1 cBool))))) s3, .no, .im (cLst cInt) s11.1, .ln celT s11.2]) 4 hB) (gk_one (gs_retL 7 (ex_tup (ea_cons (ex_callL 0 7 (F__law_pick cInt) (hr.mono (by decide)) (ea_one (ex_rowL (ex_var 6 (⟨_, rfl, rfl, _, rfl, fun v14 => ea_cons (ex_callL 0 7 (F__law_pick cInt) (hr.mono (by decide)) (ea_one (ex_rowL (ex_var 6 (⟨_, rfl, rfl, _, rfl, fun v15 => ea_cons (ex_var 2 (ea_one (ex_callTT b_tupL T.tuple_ bt_tuple (ea_one (ex_var 4 (by exact ⟨_, rfl, rfl⟩))))))⟩)))))⟩)))))))))))⟩)))))))))))))))))))) S__law_s_head.nd))⟩⟩))))) .never)))) S__law_s_head.nd))⟩))))))) S__law_s_head.nd))
theorem S__law_s_firm : FnScope ["tape", "head", "thing", "step", "up", "own", "wide", "high", "boxes", "cell", "x", "y", "m", "how"] ["tape", "head", "thing", "step", "up", "own"] (defScope st__law_s_firm) := ⟨rfl, rfl, rfl, by decide +kernel, rfl, by decide +kernel, by decide +kernel⟩
theorem ok__law_s_firm {fa : Addr} {fd : FuncData} (T : Txt w K mg) (F : FunD K "_law_s_firm" "_law_s_firm" (defArgs st__law_s_firm) (defBody st__law_s_firm) (defScope st__law_s_firm) [] [] fa fd) (hm : mg "_law_s_firm" = some (.ref fa)) (F__law_draw : FnP P w K mg base "_law_draw" (1) ["tape", "many"] (spM K celT (tc1 cInt) (fun tp x => m_law_draw tp x) cInt)) : FnP P w K mg base "_law_s_firm" 2 ["tape", "head", "thing", "step", "up", "own"] (spM K celT (tcC (cTup (tcC cInt (tcC cInt (tcC cInt (tc1 (cSeq (cTup (tcC cStr (tcC cStr (tc1 cBool)))))))))) (tcC (cTup (tcC cStr (tcC cStr (tc1 cBool)))) (tcC (cTup (tcC cInt (tc1 cInt))) (tcC cInt (tc1 (cSeq cInt)))))) (fun tp x => m_law_s_firm tp x.1 x.2.1 x.2.2.1 x.2.2.2.1 x.2.2.2.2) (cLst (cTup (tcC cInt (tcC cInt (tcC cInt (tc1 cInt))))))) := by
  refine fnp_of hm F (fn_topL F S__law_s_firm (penC (penC (penC (penC pen1)))) (fun tp x => [.lp, .im (cTup (tcC cInt (tcC cInt (tcC cInt (tc1 (cSeq (cTup (tcC cStr (tcC cStr (tc1 cBool)))))))))) x.1, .im (cTup (tcC cStr (tcC cStr (tc1 cBool)))) x.2.1, .im (cTup (tcC cInt (tc1 cInt))) x.2.2.1, .im cInt x.2.2.2.1, .im (cSeq cInt) x.2.2.2.2, .no, .no, .no, .no, .no, .no, .no, .no, .ln celT tp]) fun cdv A outer s H E hr C hB tp x => ?_) (fun _ _ _ _ _ _ us hl => match us, hl with | [_, _, _, _, _, _], _ => rfl)
  obtain ⟨a_head, a_thing, a_step, a_up, a_own⟩ := x
  show GK _ C _ _ (m_law_s_firm tp a_head a_thing a_step a_up a_own) _
  unfold m_law_s_firm
  exact (gk_cons (gs_set 6 (ex_if (fun (z5 : Int × Tape) => z5.1) (fun (z5 : Int × Tape) => [.lp, .im (cTup (tcC cInt (tcC cInt (tcC cInt (tc1 (cSeq (cTup (tcC cStr (tcC cStr (tc1 cBool)))))))))) a_head, .im (cTup (tcC cStr (tcC cStr (tc1 cBool)))) a_thing, .im (cTup (tcC cInt (tc1 cInt))) a_step, .im cInt a_up, .im (cSeq cInt) a_own, .no, .no, .no, .no, .no, .no, .no, .no, .ln celT z5.2]) (et_cmp o_eqS (ex_ixT (i := 1) (nthS nthZ) (ex_var 2 (ex_str (⟨_, _, _, rfl, ex_int (fin (s := ((0 : Int), tp)) wk_refl), ex_op2 o_fdiv (ex_op2 o_mul (ex_ixT (i := 0) nthZ (ex_var 3 (ex_op2T o_add (ex_int (ex_callL 0 14 F__law_draw (hr.mono (by decide)) (ea_one (ex_int (⟨_, rfl, rfl, _, rfl, fun v1 => ⟨_, rfl, fun v2 => ex_int (⟨_, rfl, fun v3 => fin (s := (v3, v1.2)) wk_refl⟩)⟩⟩))))))))), fun c4 => gk_cons (gs_set 7 (ex_if (fun (z10 : Int × Tape) => z10.1) (fun (z10 : Int × Tape) => [.lp, .im (cTup (tcC cInt (tcC cInt (tcC cInt (tc1 (cSeq (cTup (tcC cStr (tcC cStr (tc1 cBool)))))))))) a_head, .im (cTup (tcC cStr (tcC cStr (tc1 cBool)))) a_thing, .im (cTup (tcC cInt (tc1 cInt))) a_step, .im cInt a_up, .im (cSeq cInt) a_own, .im cInt c4.1, .no, .no, .no, .no, .no, .no, .no, .ln celT z10.2]) (et_cmp o_eqS (ex_ixT (i := 1) (nthS nthZ) (ex_var 2 (ex_str (⟨_, _, _, rfl, ex_int (fin (s := ((0 : Int), c4.2)) wk_refl), ex_op2 o_fdiv (ex_op2 o_mul (ex_ixT (i := 1) (nthS nthL) (ex_var 3 (ex_op2T o_add (ex_int (ex_callL 0 14 F__law_draw (hr.mono (by decide)) (ea_one (ex_int (⟨_, rfl, rfl, _, rfl, fun v6 => ⟨_, rfl, fun v7 => ex_int (⟨_, rfl, fun v8 => fin (s := (v8, v6.2)) wk_refl⟩)⟩⟩))))))))), fun c9 => gk_cons (gs_setN (c := (lstC (cTup (tcC cInt (tcC cInt (tcC cInt (tc1 cInt))))))) 8 (ef_lst (el_nil (gk_cons (gs_set 9 (ex_ixS (ex_var (c := (cSeq cInt)) (x := a_own) 5 (ex_int (⟨_, rfl, fun v11 => gk_cons (gs_set 10 (ex_int (gk_cons (gs_set 11 (ex_int (gk_cons (gs_forS (c := cInt) (fun (s13 : ((List (Int × Int × Int × Int)) × Int × Int × Int × Tape)) => [.lp, .im (cTup (tcC cInt (tcC cInt (tcC cInt (tc1 (cSeq (cTup (tcC cStr (tcC cStr (tc1 cBool)))))))))) a_head, .im (cTup (tcC cStr (tcC cStr (tc1 cBool)))) a_thing, .im (cTup (tcC cInt (tc1 cInt))) a_step, .im cInt a_up, .im (cSeq cInt) a_own, .im cInt c4.1, .im cInt c9.1, .ow (lstC (cTup (tcC cInt (tcC cInt (tcC cInt (tc1 cInt)))))) s13.1, .im cInt s13.2.1, .im cInt s13.2.2.1, .im cInt s13.2.2.2.1, .no, .no, .ln celT s13.2.2.2.2]) rfl (ag_name 12 S__law_s_firm.nd) (ei_rng1 T.range_ (ex_ifT (et_val (ex_ixT (i := 2) (nthS (nthS nthL)) (ex_var 2 (⟨a_head.2.2.1, (1 : Int), ex_ixT (i := 2) (nthS (nthS nthZ)) (ex_var 1 (fin wk_refl)), ex_int (fin wk_refl), ⟨_, rfl, fun v12 => ⟨_, _, _, rfl, wk_refl, fun x14 s13 => gk_cons (gs_set 13 (ex_if (fun (z17 : Int × Tape) => z17.1) (fun (z17 : Int × Tape) => [.lp, .im (cTup (tcC cInt (tcC cInt (tcC cInt (tc1 (cSeq (cTup (tcC cStr (tcC cStr (tc1 cBool)))))))))) a_head, .im (cTup (tcC cStr (tcC cStr (tc1 cBool)))) a_thing, .im (cTup (tcC cInt (tc1 cInt))) a_step, .im cInt a_up, .im (cSeq cInt) a_own, .im cInt c4.1, .im cInt c9.1, .ow (lstC (cTup (tcC cInt (tcC cInt (tcC cInt (tc1 cInt)))))) s13.1, .im cInt s13.2.1, .im cInt s13.2.2.1, .im cInt s13.2.2.2.1, .im cInt x14, .no, .ln celT z17.2]) (et_cmp o_eq (ex_var 12 (ex_int (⟨_, _, _, rfl, ex_int (fin (s := ((3 : Int), s13.2.2.2.2)) wk_refl), ex_callL 0 14 F__law_draw (hr.mono (by decide)) (ea_one (ex_int (⟨_, rfl, rfl, _, rfl, fun v15 => fin (s := (v15.1, v15.2)) wk_refl⟩))), fun c16 => gk_cons (gk_join (fun (s18 : (Int × Tape)) => [.lp, .im (cTup (tcC cInt (tcC cInt (tcC cInt (tc1 (cSeq (cTup (tcC cStr (tcC cStr (tc1 cBool)))))))))) a_head, .im (cTup (tcC cStr (tcC cStr (tc1 cBool)))) a_thing, .im (cTup (tcC cInt (tc1 cInt))) a_step, .im cInt a_up, .im (cSeq cInt) a_own, .im cInt c4.1, .im cInt c9.1, .ow (lstC (cTup (tcC cInt (tcC cInt (tcC cInt (tc1 cInt)))))) s13.1, .im cInt s18.1, .im cInt s13.2.2.1, .im cInt s13.2.2.2.1, .im cInt x14, .im cInt c16.1, .ln celT s18.2]) rfl (gs_if2 (et_w (ew_andT (et_cmp o_eq (ex_var 13 (ex_int (⟨(decide ((0 : Int) < x14)), ew_and1 (et_cmp o_gt (ex_var 12 (ex_int (fin wk_refl)))), ⟨_, _, rfl, gk_one (gs_set 9 (ex_ixS (ex_var 5 (ex_callL 0 14 F__law_draw (hr.mono (by decide)) (ea_one (ex_int (⟨_, rfl, rfl, _, rfl, fun v19 => ⟨_, rfl, fun v20 => ⟨_, rfl, wk_refl⟩⟩⟩)))))) S__law_s_firm.nd), gk_nil (⟨_, rfl, wk_refl⟩)⟩⟩))))))) (fun s18 => gk_cons (gk_join (fun (s21 : (Int × Tape)) => [.lp, .im (cTup (tcC cInt (tcC cInt (tcC cInt (tc1 (cSeq (cTup (tcC cStr (tcC cStr (tc1 cBool)))))))))) a_head, .im (cTup (tcC cStr (tcC cStr (tc1 cBool)))) a_thing, .im (cTup (tcC cInt (tc1 cInt))) a_step, .im cInt a_up, .im (cSeq cInt) a_own, .im cInt c4.1, .im cInt c9.1, .ow (lstC (cTup (tcC cInt (tcC cInt (tcC cInt (tc1 cInt)))))) s13.1, .im cInt s18.1, .im cInt s21.1, .im cInt s13.2.2.2.1, .im cInt x14, .im cInt c16.1, .ln celT s21.2]) rfl (gs_if2 (et_cmp (o_inL flatI) (ex_var 13 (ex_froz (ef_lst (el_cons (ex_int (el_cons (ex_int (el_nil (⟨_, _, rfl, gk_one (gs_let 10 (ex_op2T o_add (ex_op2 o_mul (ex_op2 o_fdiv (ex_var 9 (ex_var 4 (⟨_, rfl, fun v22 => ex_ixT (i := 0) nthZ (ex_var 3 (⟨_, rfl, fun v23 => ex_op2 o_fdiv (ex_op2 o_mul (ex_op2T o_sub (ex_ixT (i := 0) nthZ (ex_var 3 (ex_var 6 (ex_callL 0 14 F__law_draw (hr.mono (by decide)) (ea_one (ex_int (⟨_, rfl, rfl, _, rfl, fun v24 => ⟨_, rfl, fun v25 => ex_int (⟨_, rfl, fun v26 => ⟨_, rfl, fun x_27 => ⟨_, rfl, wk_refl⟩⟩⟩)⟩⟩)))))))))⟩))⟩)))))) S__law_s_firm.nd), gk_nil (⟨_, rfl, wk_refl⟩)⟩))))))))))) (fun s21 => gk_cons (gk_join (fun (s28 : (Int × Tape)) => [.lp, .im (cTup (tcC cInt (tcC cInt (tcC cInt (tc1 (cSeq (cTup (tcC cStr (tcC cStr (tc1 cBool)))))))))) a_head, .im (cTup (tcC cStr (tcC cStr (tc1 cBool)))) a_thing, .im (cTup (tcC cInt (tc1 cInt))) a_step, .im cInt a_up, .im (cSeq cInt) a_own, .im cInt c4.1, .im cInt c9.1, .ow (lstC (cTup (tcC cInt (tcC cInt (tcC cInt (tc1 cInt)))))) s13.1, .im cInt s18.1, .im cInt s21.1, .im cInt s28.1, .im cInt x14, .im cInt c16.1, .ln celT s28.2]) rfl (gs_if2 (et_cmp (o_inL flatI) (ex_var 13 (ex_froz (ef_lst (el_cons (ex_int (el_cons (ex_int (el_nil (⟨_, _, rfl, gk_one (gs_let 11 (ex_op2T o_add (ex_op2 o_mul (ex_op2 o_mod (ex_callTT b_int T.int_ bt_int (ea_one (ex_var 9 (ex_var 4 (⟨_, rfl, fun v29 => ex_ixT (i := 1) (nthS nthL) (ex_var 3 (⟨_, rfl, fun v30 => ex_op2 o_fdiv (ex_op2 o_mul (ex_op2T o_sub (ex_ixT (i := 1) (nthS nthL) (ex_var 3 (ex_var 7 (ex_callL 0 14 F__law_draw (hr.mono (by decide)) (ea_one (ex_int (⟨_, rfl, rfl, _, rfl, fun v31 => ⟨_, rfl, fun v32 => ex_int (⟨_, rfl, fun v33 => ⟨_, rfl, fun y_34 => ⟨_, rfl, wk_refl⟩⟩⟩)⟩⟩)))))))))⟩))⟩)))))))) S__law_s_firm.nd), gk_nil (⟨_, rfl, wk_refl⟩)⟩))))))))))) (fun s28 => gk_one (gs_expr (ex_own 8 m_append PySem.F.slot_list_append PySem.F.type_list_append (ea_one (ex_tup (ea_cons (ex_var 10 (ea_cons (ex_var 11 (ea_cons (ex_op2T o_add (ex_var 10 (ex_var 6 (ea_one (ex_op2T o_add (ex_var 11 (ex_var 7 (⟨rfl, _, rfl, fun v35 => ⟨_, rfl, wk_drops [12, 13]⟩⟩)))))))))))))))))))))))⟩))))) S__law_s_firm.nd), fun s13 => gk_wk (wk_freeze (Γ' := [.lp, .im (cTup (tcC cInt (tcC cInt (tcC cInt (tc1 (cSeq (cTup (tcC cStr (tcC cStr (tc1 cBool)))))))))) a_head, .im (cTup (tcC cStr (tcC cStr (tc1 cBool)))) a_thing, .im (cTup (tcC cInt (tc1 cInt))) a_step, .im cInt a_up, .im (cSeq cInt) a_own, .im cInt c4.1, .im cInt c9.1, .im (cLst (cTup (tcC cInt (tcC cInt (tcC cInt (tc1 cInt)))))) s13.1, .im cInt s13.2.1, .im cInt s13.2.2.1, .im cInt s13.2.2.2.1, .no, .no, .ln celT s13.2.2.2.2]) 8 hB) (gk_one (gs_retL 14 (ex_var 8 (by exact ⟨_, rfl, rfl⟩))))⟩⟩⟩)))))) .never))) S__law_s_firm.nd))) S__law_s_firm.nd)⟩)))) S__law_s_firm.nd)))) S__law_s_firm.nd)⟩)))))) S__law_s_firm.nd)⟩)))))) S__law_s_firm.nd))
theorem S__law_s_stretch : FnScope ["tape", "cuts", "low"] ["tape", "cuts"] (defScope st__law_s_stretch) := ⟨rfl, rfl, rfl, by decide +kernel, rfl, by decide +kernel, by decide +kernel⟩
theorem ok__law_s_stretch {fa : Addr} {fd : FuncData} (T : Txt w K mg) (F : FunD K "_law_s_stretch" "_law_s_stretch" (defArgs st__law_s_stretch) (defBody st__law_s_stretch) (defScope st__law_s_stretch) [] [] fa fd) (hm : mg "_law_s_stretch" = some (.ref fa)) (F__law_draw : FnP P w K mg base "_law_draw" (1) ["tape", "many"] (spM K celT (tc1 cInt) (fun tp x => m_law_draw tp x) cInt)) : FnP P w K mg base "_law_s_stretch" 2 ["tape", "cuts"] (spM K celT (tc1 (cLst cInt)) (fun tp x => m_law_s_stretch tp x) (cTup (tcC cInt (tc1 cInt)))) := by
  refine fnp_of hm F (fn_topL F S__law_s_stretch pen1 (fun tp x => [.lp, .im (cLst cInt) x, .no, .ln celT tp]) fun cdv A outer s H E hr C hB tp a_cuts => ?_) (fun _ _ _ _ _ _ us hl => match us, hl with | [_, _], _ => rfl)
  show GK _ C _ _ (m_law_s_stretch tp a_cuts) _
  unfold m_law_s_stretch
  exact (gk_cons (gs_set 2 (ex_callL 0 3 F__law_draw (hr.mono (by decide)) (ea_one (ex_op2T o_sub (ex_callBT b_lenL T.len_ bt_len (ea_one (ex_var 1 (ex_int (⟨_, rfl, rfl, _, rfl, fun v1 => gk_one (gs_retL 3 (ex_tup (ea_cons (ex_ixL (ex_var 1 (ex_var 2 (⟨_, rfl, fun v2 => ea_one (ex_ixL (ex_var 1 (ex_op2T o_add (ex_op2T o_add (ex_var 2 (ex_int (ex_callL 0 3 F__law_draw (hr.mono (by decide)) (ea_one (ex_op2T o_sub (ex_op2T o_sub (ex_callBT b_lenL T.len_ bt_len (ea_one (ex_var 1 (ex_int (ex_var 2 (⟨_, rfl, rfl, _, rfl, fun v3 => ⟨_, rfl, fun v4 => by exact ⟨_, rfl, rfl⟩⟩⟩))))))))))))))))⟩)))))))⟩)))))))) S__law_s_stretch.nd))
theorem S__law_s_loose : FnScope ["tape", "head", "thing", "cuts", "many", "boxes", "one", "two", "x", "y", "m"] ["tape", "head", "thing", "cuts"] (defScope st__law_s_loose) := ⟨rfl, rfl, rfl, by decide +kernel, rfl, by decide +kernel, by decide +kernel⟩
theorem ok__law_s_loose {fa : Addr} {fd : FuncData} (T : Txt w K mg) (F : FunD K "_law_s_loose" "_law_s_loose" (defArgs st__law_s_loose) (defBody st__law_s_loose) (defScope st__law_s_loose) [] [] fa fd) (hm : mg "_law_s_loose" = some (.ref fa)) (F__law_draw : FnP P w K mg base "_law_draw" (1) ["tape", "many"] (spM K celT (tc1 cInt) (fun tp x => m_law_draw tp x) cInt)) (F__law_s_stretch : FnP P w K mg base "_law_s_stretch" (2) ["tape", "cuts"] (spM K celT (tc1 (cLst cInt)) (fun tp x => m_law_s_stretch tp x) (cTup (tcC cInt (tc1 cInt))))) (F__law_pick : ∀ {Aa : Type} (ca : Cod K Aa), FnP P w K mg base "_law_pick" (2) ["tape", "menu"] (spM K celT (tc1 (cRow ca)) (fun tp x => m_law_pick tp x) ca)) : FnP P w K mg base "_law_s_loose" 3 ["tape", "head", "thing", "cuts"] (spM K celT (tcC (cTup (tcC cInt (tcC cInt (tcC cInt (tc1 (cSeq (cTup (tcC cStr (tcC cStr (tc1 cBool)))))))))) (tcC (cTup (tcC cStr (tcC cStr (tc1 cBool)))) (tc1 (cTup (tcC (cLst cInt) (tc1 (cLst cInt))))))) (fun tp x => m_law_s_loose tp x.1 x.2.1 x.2.2) (cLst (cTup (tcC cInt (tcC cInt (tcC cInt (tc1 cInt))))))) := by
  refine fnp_of hm F (fn_topL F S__law_s_loose (penC (penC pen1)) (fun tp x => [.lp, .im (cTup (tcC cInt (tcC cInt (tcC cInt (tc1 (cSeq (cTup (tcC cStr (tcC cStr (tc1 cBool)))))))))) x.1, .im (cTup (tcC cStr (tcC cStr (tc1 cBool)))) x.2.1, .im (cTup (tcC (cLst cInt) (tc1 (cLst cInt)))) x.2.2, .no, .no, .no, .no, .no, .no, .no, .ln celT tp]) fun cdv A outer s H E hr C hB tp x => ?_) (fun _ _ _ _ _ _ us hl => match us, hl with | [_, _, _, _], _ => rfl)
  obtain ⟨a_head, a_thing, a_cuts⟩ := x
  show GK _ C _ _ (m_law_s_loose tp a_head a_thing a_cuts) _
  unfold m_law_s_loose
  exact (gk_cons (gs_let 4 (ex_ifT (et_val (ex_ixT (i := 2) (nthS (nthS nthL)) (ex_var 2 (⟨a_head.2.2.1, (1 : Int), ex_ixT (i := 2) (nthS (nthS nthZ)) (ex_var 1 (fin wk_refl)), ex_int (fin wk_refl), ⟨_, rfl, fun many_1 => gk_cons (gk_join (fun (s2 : (Int × Tape)) => [.lp, .im (cTup (tcC cInt (tcC cInt (tcC cInt (tc1 (cSeq (cTup (tcC cStr (tcC cStr (tc1 cBool)))))))))) a_head, .im (cTup (tcC cStr (tcC cStr (tc1 cBool)))) a_thing, .im (cTup (tcC (cLst cInt) (tc1 (cLst cInt)))) a_cuts, .im cInt s2.1, .no, .no, .no, .no, .no, .no, .ln celT s2.2]) rfl (gs_if2 (et_cmp o_eqS (ex_ixT (i := 1) (nthS nthZ) (ex_var 2 (ex_str (⟨_, _, rfl, gk_one (gs_let 4 (ex_op2T o_add (ex_int (ex_callL 0 11 F__law_draw (hr.mono (by decide)) (ea_one (ex_int (⟨_, rfl, rfl, _, rfl, fun v3 => ⟨_, rfl, fun many_4 => ⟨_, rfl, wk_refl⟩⟩⟩)))))) S__law_s_loose.nd), gk_nil (⟨_, rfl, wk_refl⟩)⟩)))))) (fun s2 => gk_cons (gs_setN (c := (lstC (cTup (tcC cInt (tcC cInt (tcC cInt (tc1 cInt))))))) 5 (ef_lst (el_nil (gk_cons (gs_let 6 (ex_tup (ea_cons (ex_int (ea_one (ex_int (⟨_, rfl, fun one_5 => gk_cons (gs_let 7 (ex_tup (ea_cons (ex_int (ea_one (ex_int (⟨_, rfl, fun two_6 => gk_cons (gs_set 8 (ex_int (gk_cons (gs_set 9 (ex_int (gk_cons (gs_forS (c := cInt) (fun (s8 : ((List (Int × Int × Int × Int)) × (Int × Int) × (Int × Int) × Int × Int × Tape)) => [.lp, .im (cTup (tcC cInt (tcC cInt (tcC cInt (tc1 (cSeq (cTup (tcC cStr (tcC cStr (tc1 cBool)))))))))) a_head, .im (cTup (tcC cStr (tcC cStr (tc1 cBool)))) a_thing, .im (cTup (tcC (cLst cInt) (tc1 (cLst cInt)))) a_cuts, .im cInt s2.1, .ow (lstC (cTup (tcC cInt (tcC cInt (tcC cInt (tc1 cInt)))))) s8.1, .im (cTup (tcC cInt (tc1 cInt))) s8.2.1, .im (cTup (tcC cInt (tc1 cInt))) s8.2.2.1, .im cInt s8.2.2.2.1, .im cInt s8.2.2.2.2.1, .no, .ln celT s8.2.2.2.2.2]) rfl (ag_name 10 S__law_s_loose.nd) (ei_rng1 T.range_ (ex_var 4 (⟨_, rfl, fun v7 => ⟨_, _, _, rfl, wk_refl, fun x9 s8 => gk_cons (gk_join (fun (s10 : ((Int × Int) × (Int × Int) × Int × Int × Tape)) => [.lp, .im (cTup (tcC cInt (tcC cInt (tcC cInt (tc1 (cSeq (cTup (tcC cStr (tcC cStr (tc1 cBool)))))))))) a_head, .im (cTup (tcC cStr (tcC cStr (tc1 cBool)))) a_thing, .im (cTup (tcC (cLst cInt) (tc1 (cLst cInt)))) a_cuts, .im cInt s2.1, .ow (lstC (cTup (tcC cInt (tcC cInt (tcC cInt (tc1 cInt)))))) s8.1, .im (cTup (tcC cInt (tc1 cInt))) s10.1, .im (cTup (tcC cInt (tc1 cInt))) s10.2.1, .im cInt s10.2.2.1, .im cInt s10.2.2.2.1, .im cInt x9, .ln celT s10.2.2.2.2]) rfl (gs_if2 (et_w (ew_andT (et_cmp o_neS (ex_ixT (i := 1) (nthS nthZ) (ex_var 2 (ex_str (⟨((decide (x9 = (0 : Int))) || (decide (a_thing.2.1 = ("land" : Str)))), ew_and1 (et_w (ew_orT (et_cmp o_eq (ex_var 10 (ex_int (⟨(decide (a_thing.2.1 = ("land" : Str))), ew_or1 (et_cmp o_eqS (ex_ixT (i := 1) (nthS nthZ) (ex_var 2 (ex_str (fin wk_refl))))), fin wk_refl⟩)))))), ⟨_, _, rfl, gk_cons (gs_set 6 (ex_callL 0 11 F__law_s_stretch (hr.mono (by decide)) (ea_one (ex_ixT (i := 0) nthZ (ex_var 3 (⟨_, rfl, rfl, _, rfl, fun v11 => gk_cons (gs_set 7 (ex_callL 0 11 F__law_s_stretch (hr.mono (by decide)) (ea_one (ex_ixT (i := 1) (nthS nthL) (ex_var 3 (⟨_, rfl, rfl, _, rfl, fun v12 => gk_cons (gs_set 8 (ex_ixT (i := 0) nthZ (ex_var (c := (cTup (tcC cInt (tc1 cInt)))) (x := v11.1) 6 (gk_one (gs_set 9 (ex_ixT (i := 0) nthZ (ex_var (c := (cTup (tcC cInt (tc1 cInt)))) (x := v12.1) 7 (⟨_, rfl, wk_refl⟩))) S__law_s_loose.nd)))) S__law_s_loose.nd)⟩))))) S__law_s_loose.nd)⟩))))) S__law_s_loose.nd), gk_one (gk_join (fun (s13 : (Int × Int × Tape)) => [.lp, .im (cTup (tcC cInt (tcC cInt (tcC cInt (tc1 (cSeq (cTup (tcC cStr (tcC cStr (tc1 cBool)))))))))) a_head, .im (cTup (tcC cStr (tcC cStr (tc1 cBool)))) a_thing, .im (cTup (tcC (cLst cInt) (tc1 (cLst cInt)))) a_cuts, .im cInt s2.1, .ow (lstC (cTup (tcC cInt (tcC cInt (tcC cInt (tc1 cInt)))))) s8.1, .im (cTup (tcC cInt (tc1 cInt))) s8.2.1, .im (cTup (tcC cInt (tc1 cInt))) s8.2.2.1, .im cInt s13.1, .im cInt s13.2.1, .im cInt x9, .ln celT s13.2.2]) rfl (gs_if2 (et_w (ew_or (fun (z16 : Bool × Tape) => z16.1) (fun (z16 : Bool × Tape) => [.lp, .im (cTup (tcC cInt (tcC cInt (tcC cInt (tc1 (cSeq (cTup (tcC cStr (tcC cStr (tc1 cBool)))))))))) a_head, .im (cTup (tcC cStr (tcC cStr (tc1 cBool)))) a_thing, .im (cTup (tcC (cLst cInt) (tc1 (cLst cInt)))) a_cuts, .im cInt s2.1, .ow (lstC (cTup (tcC cInt (tcC cInt (tcC cInt (tc1 cInt)))))) s8.1, .im (cTup (tcC cInt (tc1 cInt))) s8.2.1, .im (cTup (tcC cInt (tc1 cInt))) s8.2.2.1, .im cInt s8.2.2.2.1, .im cInt s8.2.2.2.2.1, .im cInt x9, .ln celT z16.2]) (et_cmp o_eq (ex_var 10 (ex_int (⟨_, (true, s8.2.2.2.2.2), _, rfl, rfl, wk_refl, ew_or1 (et_cmp o_gt (ex_callL 0 11 F__law_draw (hr.mono (by decide)) (ea_one (ex_int (⟨_, rfl, rfl, _, rfl, fun v14 => ex_int (fin (s := ((decide ((0 : Int) < v14.1)), v14.2)) wk_refl)⟩))))), fun c15 => ⟨_, _, rfl, gk_cons (gs_let 8 (ex_callBT (b_min rfl) T.min_ bt_min (ea_cons (ex_callL 0 11 (F__law_pick cInt) (hr.mono (by decide)) (ea_one (ex_rowL (ex_ixT (i := 0) nthZ (ex_var 3 (⟨_, rfl, rfl, _, rfl, fun v17 => ea_one (ex_op2T o_add (ex_op2T o_sub (ex_op2 o_mul (ex_int (ex_ixT (i := 0) nthZ (ex_var 1 (⟨_, rfl, fun v18 => ex_ixT (i := 1) (nthS nthL) (ex_var 6 (ex_ixT (i := 0) nthZ (ex_var 6 (⟨_, rfl, fun x_19 => gk_one (gs_let 9 (ex_callBT (b_min rfl) T.min_ bt_min (ea_cons (ex_callL 0 11 (F__law_pick cInt) (hr.mono (by decide)) (ea_one (ex_rowL (ex_ixT (i := 1) (nthS nthL) (ex_var 3 (⟨_, rfl, rfl, _, rfl, fun v20 => ea_one (ex_op2T o_add (ex_op2T o_sub (ex_op2 o_mul (ex_int (ex_ixT (i := 1) (nthS nthZ) (ex_var 1 (⟨_, rfl, fun v21 => ex_ixT (i := 1) (nthS nthL) (ex_var 7 (ex_ixT (i := 0) nthZ (ex_var 7 (⟨_, rfl, fun y_22 => ⟨_, rfl, wk_refl⟩⟩))))⟩)))))))⟩)))))))) S__law_s_loose.nd)⟩))))⟩)))))))⟩)))))))) S__law_s_loose.nd), gk_nil (⟨_, rfl, wk_refl⟩)⟩⟩))))))) (fun s13 => ⟨_, rfl, wk_refl⟩))⟩⟩)))))))) (fun s10 => gk_one (gs_expr (ex_own 5 m_append PySem.F.slot_list_append PySem.F.type_list_append (ea_one (ex_tup (ea_cons (ex_var 8 (ea_cons (ex_var 9 (ea_cons (ex_op2T o_sub (ex_op2T o_add (ex_var 8 (ex_ixT (i := 1) (nthS nthL) (ex_var 6 (ex_ixT (i := 0) nthZ (ex_var 6 (ea_one (ex_op2T o_sub (ex_op2T o_add (ex_var 9 (ex_ixT (i := 1) (nthS nthL) (ex_var 7 (ex_ixT (i := 0) nthZ (ex_var 7 (⟨rfl, _, rfl, fun v23 => ⟨_, rfl, wk_drops [10]⟩⟩))))))))))))))))))))))))))), fun s8 => gk_wk (wk_freeze (Γ' := [.lp, .im (cTup (tcC cInt (tcC cInt (tcC cInt (tc1 (cSeq (cTup (tcC cStr (tcC cStr (tc1 cBool)))))))))) a_head, .im (cTup (tcC cStr (tcC cStr (tc1 cBool)))) a_thing, .im (cTup (tcC (cLst cInt) (tc1 (cLst cInt)))) a_cuts, .im cInt s2.1, .im (cLst (cTup (tcC cInt (tcC cInt (tcC cInt (tc1 cInt)))))) s8.1, .im (cTup (tcC cInt (tc1 cInt))) s8.2.1, .im (cTup (tcC cInt (tc1 cInt))) s8.2.2.1, .im cInt s8.2.2.2.1, .im cInt s8.2.2.2.2.1, .no, .ln celT s8.2.2.2.2.2]) 5 hB) (gk_one (gs_retL 11 (ex_var 5 (by exact ⟨_, rfl, rfl⟩))))⟩⟩))) .never))) S__law_s_loose.nd))) S__law_s_loose.nd)⟩)))))) S__law_s_loose.nd)⟩)))))) S__law_s_loose.nd)))) S__law_s_loose.nd)))⟩⟩))))) S__law_s_loose.nd))
theorem S__law_s_world : FnScope ["tape", "head", "firm", "across", "up", "cells", "step", "xs", "ys", "places", "k", "at", "spare", "box", "thing"] ["tape", "head"] (defScope st__law_s_world) := ⟨rfl, rfl, rfl, by decide +kernel, rfl, by decide +kernel, by decide +kernel⟩
theorem ok__law_s_world {fa : Addr} {fd : FuncData} (T : Txt w K mg) (F : FunD K "_law_s_world" "_law_s_world" (defArgs st__law_s_world) (defBody st__law_s_world) (defScope st__law_s_world) [] [] fa fd) (hm : mg "_law_s_world" = some (.ref fa)) (F__law_pick : ∀ {Aa : Type} (ca : Cod K Aa), FnP P w K mg base "_law_pick" (2) ["tape", "menu"] (spM K celT (tc1 (cRow ca)) (fun tp x => m_law_pick tp x) ca)) (F__law_shuffled : ∀ {Aa : Type} (ca : Cod K Aa), FnP P w K mg base "_law_shuffled" (2) ["tape", "menu"] (spMN K celT (tc1 (cRow ca)) (fun tp x => m_law_shuffled tp x) (lstC ca))) (F__law_draw : FnP P w K mg base "_law_draw" (1) ["tape", "many"] (spM K celT (tc1 cInt) (fun tp x => m_law_draw tp x) cInt)) (F__law_s_firm : FnP P w K mg base "_law_s_firm" (2) ["tape", "head", "thing", "step", "up", "own"] (spM K celT (tcC (cTup (tcC cInt (tcC cInt (tcC cInt (tc1 (cSeq (cTup (tcC cStr (tcC cStr (tc1 cBool)))))))))) (tcC (cTup (tcC cStr (tcC cStr (tc1 cBool)))) (tcC (cTup (tcC cInt (tc1 cInt))) (tcC cInt (tc1 (cSeq cInt)))))) (fun tp x => m_law_s_firm tp x.1 x.2.1 x.2.2.1 x.2.2.2.1 x.2.2.2.2) (cLst (cTup (tcC cInt (tcC cInt (tcC cInt (tc1 cInt)))))))) (F__law_s_loose : FnP P w K mg base "_law_s_loose" (3) ["tape", "head", "thing", "cuts"] (spM K celT (tcC (cTup (tcC cInt (tcC cInt (tcC cInt (tc1 (cSeq (cTup (tcC cStr (tcC cStr (tc1 cBool)))))))))) (tcC (cTup (tcC cStr (tcC cStr (tc1 cBool)))) (tc1 (cTup (tcC (cLst cInt) (tc1 (cLst cInt))))))) (fun tp x => m_law_s_loose tp x.1 x.2.1 x.2.2) (cLst (cTup (tcC cInt (tcC cInt (tcC cInt (tc1 cInt)))))))) : FnP P w K mg base "_law_s_world" 4 ["tape", "head"] (spM K celT (tc1 (cTup (tcC cInt (tcC cInt (tcC cInt (tc1 (cSeq (cTup (tcC cStr (tcC cStr (tc1 cBool))))))))))) (fun tp x => m_law_s_world tp x) (cTup (tcC (cTup (tcC cInt (tcC cInt (tcC cInt (tc1 (cSeq (cTup (tcC cStr (tcC cStr (tc1 cBool)))))))))) (tcC cInt (tc1 (cLst (cLst (cTup (tcC cInt (tcC cInt (tcC cInt (tc1 cInt)))))))))))) := by
  refine fnp_of hm F (fn_topL F S__law_s_world pen1 (fun tp x => [.lp, .im (cTup (tcC cInt (tcC cInt (tcC cInt (tc1 (cSeq (cTup (tcC cStr (tcC cStr (tc1 cBool)))))))))) x, .no, .no, .no, .no, .no, .no, .no, .no, .no, .no, .no, .no, .no, .ln celT tp]) fun cdv A outer s H E hr C hB tp a_head => ?_) (fun _ _ _ _ _ _ us hl => match us, hl with | [_, _], _ => rfl)
  show GK _ C _ _ (m_law_s_world tp a_head) _
  unfold m_law_s_world
  exact (gk_cons (gs_setLcV 2 rfl S__law_s_world.nd hB (lc_flt (c := (cTup (tcC cStr (tcC cStr (tc1 cBool))))) (d := cStr) (ws := [14]) (up := fun Γ (x : (Str × Str × Bool)) => (Γ.set 14 (.im (cTup (tcC cStr (tcC cStr (tc1 cBool)))) x))) (blkOk_by (own := [("thing", 14)]) (by kernel_rfl)) (fun C' sh H Cc cl fp => (ag_name 14 S__law_s_world.nd)) (ei_seq (ex_ixT (i := 3) (nthS (nthS (nthS nthL))) (ex_var 1 (⟨_, _, _, rfl, fun ys2 => ⟨(show 2 < 16 by decide), gk_cons (gs_asg (ag_tup rfl (ags_cons (ag_name 3 S__law_s_world.nd) (ags_one (ag_name 4 S__law_s_world.nd)))) (ex_callL 0 15 (F__law_pick (cTup (tcC cInt (tc1 cInt)))) (hr.mono (by decide)) (ea_one (ex_rowL (ex_froz (ef_lst (el_cons (ex_tup (ea_cons (ex_int (ea_one (ex_int (el_cons (ex_tup (ea_cons (ex_int (ea_one (ex_int (el_cons (ex_tup (ea_cons (ex_int (ea_one (ex_int (el_cons (ex_tup (ea_cons (ex_int (ea_one (ex_int (el_nil (⟨_, rfl, rfl, _, rfl, fun v3 => gk_cons (gk_join (fun (s4 : (Int × Int × Tape)) => [.lp, .im (cTup (tcC cInt (tcC cInt (tcC cInt (tc1 (cSeq (cTup (tcC cStr (tcC cStr (tc1 cBool)))))))))) a_head, .im (cLst cStr) ys2, .im cInt s4.1, .im cInt s4.2.1, .no, .no, .no, .no, .no, .no, .no, .no, .no, .no, .ln celT s4.2.2]) rfl (gs_if2 (et_cmp o_lt (ex_op2 o_mul (ex_var 3 (ex_var 4 (⟨_, rfl, fun v5 => ex_callBT b_lenL T.len_ bt_len (ea_one (ex_var 2 (⟨_, _, rfl, gk_one (gs_asg (ag_tup rfl (ags_cons (ag_name 3 S__law_s_world.nd) (ags_one (ag_name 4 S__law_s_world.nd)))) (ex_callL 0 15 (F__law_pick (cTup (tcC cInt (tc1 cInt)))) (hr.mono (by decide)) (ea_one (ex_rowL (ex_froz (ef_lst (el_cons (ex_tup (ea_cons (ex_int (ea_one (ex_int (el_cons (ex_tup (ea_cons (ex_int (ea_one (ex_int (el_nil (⟨_, rfl, rfl, _, rfl, fun v6 => ⟨_, rfl, wk_refl⟩⟩)))))))))))))))))))), gk_nil (⟨_, rfl, wk_refl⟩)⟩)))⟩)))))) (fun s4 => gk_cons (gs_set 5 (ex_froz (ef_callL 0 15 (F__law_shuffled cInt) (hr.mono (by decide)) (ea_one (ex_rowL (ex_froz (ef_listRng rfl T.list_ T.range_ (ex_op2 o_mul (ex_var 3 (ex_var 4 (⟨_, rfl, fun v7 => ⟨_, rfl, fun v8 => ⟨_, rfl, rfl, _, rfl, fun v9 => gk_cons (gs_let 6 (ex_tup (ea_cons (ex_op2 o_fdiv (ex_op2 o_mul (ex_int (ex_ixT (i := 0) nthZ (ex_var 1 (⟨_, rfl, fun v10 => ex_var 3 (⟨_, rfl, fun v11 => ea_one (ex_op2 o_fdiv (ex_op2 o_mul (ex_int (ex_ixT (i := 1) (nthS nthZ) (ex_var 1 (⟨_, rfl, fun v12 => ex_var 4 (⟨_, rfl, fun v13 => ⟨_, rfl, fun step_14 => gk_cons (gs_let 7 (ex_froz (ef_lst (el_cons (ex_int (el_cons (ex_op2 o_mul (ex_int (ex_ixT (i := 0) nthZ (ex_var 1 (⟨_, rfl, fun v15 => el_cons (ex_op2 o_mul (ex_int (ex_ixT (i := 0) nthZ (ex_var 1 (⟨_, rfl, fun v16 => el_cons (ex_op2 o_mul (ex_op2 o_mul (ex_int (ex_ixT (i := 0) nthZ (ex_var 1 (⟨_, rfl, fun v17 => ex_callL 0 15 F__law_draw (hr.mono (by decide)) (ea_one (ex_int (⟨_, rfl, rfl, _, rfl, fun v18 => ⟨_, rfl, fun v19 => el_nil (⟨_, rfl, fun xs_20 => gk_cons (gs_let 8 (ex_froz (ef_lst (el_cons (ex_int (el_cons (ex_op2 o_mul (ex_int (ex_ixT (i := 1) (nthS nthZ) (ex_var 1 (⟨_, rfl, fun v21 => el_cons (ex_op2 o_mul (ex_int (ex_ixT (i := 1) (nthS nthZ) (ex_var 1 (⟨_, rfl, fun v22 => el_cons (ex_op2 o_mul (ex_op2 o_mul (ex_int (ex_ixT (i := 1) (nthS nthZ) (ex_var 1 (⟨_, rfl, fun v23 => ex_callL 0 15 F__law_draw (hr.mono (by decide)) (ea_one (ex_int (⟨_, rfl, rfl, _, rfl, fun v24 => ⟨_, rfl, fun v25 => el_nil (⟨_, rfl, fun ys_26 => gk_cons (gs_setLc 9 rfl S__law_s_world.nd (lc_map (c := (cTup (tcC cStr (tcC cStr (tc1 cBool))))) (d := (cLst (cTup (tcC cInt (tcC cInt (tcC cInt (tc1 cInt))))))) (ws := [14]) (up := fun Γ (x : (Str × Str × Bool)) => (Γ.set 14 (.im (cTup (tcC cStr (tcC cStr (tc1 cBool)))) x))) (blkOk_by (own := [("thing", 14)]) (by kernel_rfl)) (fun C' sh H Cc cl fp => (ag_name 14 S__law_s_world.nd)) (ei_seq (ex_ixT (i := 3) (nthS (nthS (nthS nthL))) (ex_var 1 (⟨_, _, rfl, fun ys28 => gk_cons (gs_forS (c := cInt) (fun (s30 : ((List Int) × (List Int) × (List (List (Int × Int × Int × Int))) × Tape)) => [.lp, .im (cTup (tcC cInt (tcC cInt (tcC cInt (tc1 (cSeq (cTup (tcC cStr (tcC cStr (tc1 cBool)))))))))) a_head, .im (cLst cStr) ys2, .im cInt s4.1, .im cInt s4.2.1, .im (cLst cInt) v9.1, .im (cTup (tcC cInt (tc1 cInt))) step_14, .im (cLst cInt) s30.1, .im (cLst cInt) s30.2.1, .ow (lstC (cLst (cTup (tcC cInt (tcC cInt (tcC cInt (tc1 cInt))))))) s30.2.2.1, .no, .no, .no, .no, .no, .ln celT s30.2.2.2]) rfl (ag_name 10 S__law_s_world.nd) (ei_rng1 T.range_ (ex_callBT b_lenS T.len_ bt_len (ea_one (ex_ixT (i := 3) (nthS (nthS (nthS nthL))) (ex_var 1 (⟨_, rfl, fun v29 => ⟨_, _, _, rfl, wk_refl, fun x31 s30 => gk_one (gk_join (fun (s32 : ((List Int) × (List Int) × (List (List (Int × Int × Int × Int))) × Tape)) => [.lp, .im (cTup (tcC cInt (tcC cInt (tcC cInt (tc1 (cSeq (cTup (tcC cStr (tcC cStr (tc1 cBool)))))))))) a_head, .im (cLst cStr) ys2, .im cInt s4.1, .im cInt s4.2.1, .im (cLst cInt) v9.1, .im (cTup (tcC cInt (tc1 cInt))) step_14, .im (cLst cInt) s32.1, .im (cLst cInt) s32.2.1, .ow (lstC (cLst (cTup (tcC cInt (tcC cInt (tcC cInt (tc1 cInt))))))) s32.2.2.1, .im cInt x31, .no, .no, .no, .no, .ln celT s32.2.2.2]) rfl (gs_if2 (et_cmp (o_inL flatS) (ex_ixT (i := 0) nthZ (ex_ixS (ex_ixT (i := 3) (nthS (nthS (nthS nthL))) (ex_var 1 (ex_var 10 (⟨_, rfl, fun v33 => ex_var 2 (⟨_, _, rfl, gk_cons (gs_set 11 (ex_idxL flatS (ex_var 2 (ex_ixT (i := 0) nthZ (ex_ixS (ex_ixT (i := 3) (nthS (nthS (nthS nthL))) (ex_var 1 (ex_var 10 (⟨_, rfl, fun v34 => ⟨_, rfl, fun v35 => gk_cons (gs_set 12 (ex_if (fun (c : Int) => c) (fun _ => [.lp, .im (cTup (tcC cInt (tcC cInt (tcC cInt (tc1 (cSeq (cTup (tcC cStr (tcC cStr (tc1 cBool)))))))))) a_head, .im (cLst cStr) ys2, .im cInt s4.1, .im cInt s4.2.1, .im (cLst cInt) v9.1, .im (cTup (tcC cInt (tc1 cInt))) step_14, .im (cLst cInt) s30.1, .im (cLst cInt) s30.2.1, .ow (lstC (cLst (cTup (tcC cInt (tcC cInt (tcC cInt (tc1 cInt))))))) s30.2.2.1, .im cInt x31, .im cInt v35, .no, .no, .no, .ln celT s30.2.2.2]) (et_cmp o_lt (ex_op2T o_add (ex_var 11 (ex_callBT b_lenL T.len_ bt_len (ea_one (ex_var 2 (ex_callBT b_lenL T.len_ bt_len (ea_one (ex_var 5 (⟨_, _, _, rfl, ex_ixL (ex_var 5 (ex_op2T o_add (ex_var 11 (ex_callBT b_lenL T.len_ bt_len (ea_one (ex_var 2 (⟨_, rfl, fun v36 => fin wk_refl⟩))))))), ex_ixL (ex_var 5 (ex_var 11 (⟨_, rfl, fun v37 => fin wk_refl⟩))), fun c38 => gk_cons (gs_setI 9 (ex_callL 0 15 F__law_s_firm (hr.mono (by decide)) (ea_cons (ex_var 1 (ea_cons (ex_ixS (ex_ixT (i := 3) (nthS (nthS (nthS nthL))) (ex_var 1 (ex_var 10 (⟨_, rfl, fun v39 => ea_cons (ex_var 6 (ea_cons (ex_var 4 (ea_one (ex_tupS (el_cons (ex_ixL (ex_var 5 (ex_var 11 (⟨_, rfl, fun v40 => el_cons (ex_var 12 (el_nil (⟨_, rfl, rfl, _, rfl, fun v41 => ⟨⟨_, rfl⟩, ex_var 10 (⟨_, rfl, _, rfl, fun v42 => gk_one (gs_forS (c := (cTup (tcC cInt (tcC cInt (tcC cInt (tc1 cInt)))))) (fun (s44 : ((List Int) × (List Int))) => [.lp, .im (cTup (tcC cInt (tcC cInt (tcC cInt (tc1 (cSeq (cTup (tcC cStr (tcC cStr (tc1 cBool)))))))))) a_head, .im (cLst cStr) ys2, .im cInt s4.1, .im cInt s4.2.1, .im (cLst cInt) v9.1, .im (cTup (tcC cInt (tc1 cInt))) step_14, .im (cLst cInt) s44.1, .im (cLst cInt) s44.2, .ow (lstC (cLst (cTup (tcC cInt (tcC cInt (tcC cInt (tc1 cInt))))))) v42, .im cInt x31, .im cInt v35, .im cInt c38, .no, .no, .ln celT v41.2]) rfl (ag_name 13 S__law_s_world.nd) (ei_lst (ex_ixO 9 (ex_var 10 (⟨rfl, _, rfl, fun v43 => ⟨_, _, _, rfl, wk_refl, fun x45 s44 => gk_cons (gs_set 7 (ex_op2 o_catL (ex_var 7 (ex_froz (ef_lst (el_cons (ex_ixT (i := 0) nthZ (ex_var 13 (el_cons (ex_ixT (i := 2) (nthS (nthS nthZ)) (ex_var 13 (el_nil (⟨_, rfl, fun v46 => gk_one (gs_set 8 (ex_op2 o_catL (ex_var 8 (ex_froz (ef_lst (el_cons (ex_ixT (i := 1) (nthS nthZ) (ex_var 13 (el_cons (ex_ixT (i := 3) (nthS (nthS (nthS nthL))) (ex_var 13 (el_nil (⟨_, rfl, fun v47 => ⟨_, rfl, wk_drops [13]⟩⟩)))))))))))) S__law_s_world.nd)⟩)))))))))))) S__law_s_world.nd), fun s44 => ⟨_, rfl, wk_drops [11, 12]⟩⟩⟩)))) .never)⟩)⟩⟩)))⟩))))))))))⟩))))))))))⟩))))))))))) S__law_s_world.nd)⟩⟩)))))))) S__law_s_world.nd), gk_nil (⟨_, rfl, wk_refl⟩)⟩)⟩)))))))) (fun s32 => ⟨_, rfl, wk_drops [10]⟩)), fun s30 => gk_cons (gs_forS (c := cInt) (fun (s49 : ((List (List (Int × Int × Int × Int))) × Tape)) => [.lp, .im (cTup (tcC cInt (tcC cInt (tcC cInt (tc1 (cSeq (cTup (tcC cStr (tcC cStr (tc1 cBool)))))))))) a_head, .im (cLst cStr) ys2, .im cInt s4.1, .im cInt s4.2.1, .im (cLst cInt) v9.1, .im (cTup (tcC cInt (tc1 cInt))) step_14, .im (cLst cInt) s30.1, .im (cLst cInt) s30.2.1, .ow (lstC (cLst (cTup (tcC cInt (tcC cInt (tcC cInt (tc1 cInt))))))) s49.1, .no, .no, .no, .no, .no, .ln celT s49.2]) rfl (ag_name 10 S__law_s_world.nd) (ei_rng1 T.range_ (ex_callBT b_lenS T.len_ bt_len (ea_one (ex_ixT (i := 3) (nthS (nthS (nthS nthL))) (ex_var 1 (⟨_, rfl, fun v48 => ⟨_, _, _, rfl, wk_refl, fun x50 s49 => gk_one (gk_join (fun (s51 : ((List (List (Int × Int × Int × Int))) × Tape)) => [.lp, .im (cTup (tcC cInt (tcC cInt (tcC cInt (tc1 (cSeq (cTup (tcC cStr (tcC cStr (tc1 cBool)))))))))) a_head, .im (cLst cStr) ys2, .im cInt s4.1, .im cInt s4.2.1, .im (cLst cInt) v9.1, .im (cTup (tcC cInt (tc1 cInt))) step_14, .im (cLst cInt) s30.1, .im (cLst cInt) s30.2.1, .ow (lstC (cLst (cTup (tcC cInt (tcC cInt (tcC cInt (tc1 cInt))))))) s51.1, .im cInt x50, .no, .no, .no, .no, .ln celT s51.2]) rfl (gs_if2 (et_cmp (o_niL flatS) (ex_ixT (i := 0) nthZ (ex_ixS (ex_ixT (i := 3) (nthS (nthS (nthS nthL))) (ex_var 1 (ex_var 10 (⟨_, rfl, fun v52 => ex_var 2 (⟨_, _, rfl, gk_one (gs_setI 9 (ex_callL 0 15 F__law_s_loose (hr.mono (by decide)) (ea_cons (ex_var 1 (ea_cons (ex_ixS (ex_ixT (i := 3) (nthS (nthS (nthS nthL))) (ex_var 1 (ex_var 10 (⟨_, rfl, fun v53 => ea_one (ex_tup (ea_cons (ex_froz (ef_sortSet rfl T.sorted_ T.set_ (ex_var 7 (⟨_, rfl, fun v54 => ea_one (ex_froz (ef_sortSet rfl T.sorted_ T.set_ (ex_var 8 (⟨_, rfl, fun v55 => ⟨_, rfl, rfl, _, rfl, fun v56 => ⟨⟨_, rfl⟩, ex_var 10 (⟨_, rfl, _, rfl, fun v57 => ⟨_, rfl, wk_refl⟩⟩)⟩⟩⟩))))⟩))))))⟩)))))))))), gk_nil (⟨_, rfl, wk_refl⟩)⟩)⟩)))))))) (fun s51 => ⟨_, rfl, wk_drops [10]⟩)), fun s49 => gk_wk (wk_freeze (Γ' := [.lp, .im (cTup (tcC cInt (tcC cInt (tcC cInt (tc1 (cSeq (cTup (tcC cStr (tcC cStr (tc1 cBool)))))))))) a_head, .im (cLst cStr) ys2, .im cInt s4.1, .im cInt s4.2.1, .im (cLst cInt) v9.1, .im (cTup (tcC cInt (tc1 cInt))) step_14, .im (cLst cInt) s30.1, .im (cLst cInt) s30.2.1, .im (cLst (cLst (cTup (tcC cInt (tcC cInt (tcC cInt (tc1 cInt))))))) s49.1, .no, .no, .no, .no, .no, .ln celT s49.2]) 9 hB) (gk_one (gs_retL 15 (ex_tup (ea_cons (ex_var 1 (ea_cons (ex_int (ea_one (ex_var 9 (by exact ⟨_, rfl, rfl⟩))))))))))⟩⟩)))))) .never)⟩⟩)))))) .never), fun C' sh H Cc cl fp x27 => ex_froz (ef_lst (el_nil (⟨rfl, wk_refl⟩)))⟩))))))⟩)⟩⟩)))⟩))))))⟩)))))⟩)))))))))) S__law_s_world.nd)⟩)⟩⟩)))⟩))))))⟩)))))⟩)))))))))) S__law_s_world.nd)⟩⟩)⟩))))))⟩)⟩)))))))) S__law_s_world.nd)⟩⟩⟩)))))))))) S__law_s_world.nd)))⟩))))))))))))))))))))))))))))))))⟩, fun C' sh H Cc cl fp x1 => et_cmp (o_inL flatS) (ex_ixT (i := 1) (nthS nthZ) (ex_var 14 (ex_froz (ef_lst (el_cons (ex_str (el_cons (ex_str (el_cons (ex_str (el_nil (⟨rfl, wk_refl⟩)))))))))))), fun C' sh H Cc cl fp x1 => ex_ixT (i := 0) nthZ (ex_var 14 (⟨rfl, wk_refl⟩))⟩)))))))
theorem S__law_s_placing : FnScope ["world", "boxes", "box", "number"] ["world"] (defScope st__law_s_placing) := ⟨rfl, rfl, rfl, by decide +kernel, rfl, by decide +kernel, by decide +kernel⟩
theorem ok__law_s_placing {fa : Addr} {fd : FuncData} (T : Txt w K mg) (F : FunD K "_law_s_placing" "_law_s_placing" (defArgs st__law_s_placing) (defBody st__law_s_placing) (defScope st__law_s_placing) [] [] fa fd) (hm : mg "_law_s_placing" = some (.ref fa)) (F__law_low : FnP P w K mg base "_law_low" (1) ["n", "d"] (spP K (tcC cInt (tc1 cInt)) (fun x => m_law_low x.1 x.2) (cTup (tcC cInt (tc1 cInt))))) : FnP P w K mg base "_law_s_placing" 2 ["world"] (spP K (tc1 (cTup (tcC (cTup (tcC cInt (tcC cInt (tcC cInt (tc1 (cSeq (cTup (tcC cStr (tcC cStr (tc1 cBool)))))))))) (tcC cInt (tc1 (cLst (cLst (cTup (tcC cInt (tcC cInt (tcC cInt (tc1 cInt)))))))))))) (fun x => m_law_s_placing x) (cSeq (cSeq (cTup (tcC (cTup (tcC cInt (tc1 cInt))) (tcC (cTup (tcC cInt (tc1 cInt))) (tcC (cTup (tcC cInt (tc1 cInt))) (tc1 (cTup (tcC cInt (tc1 cInt))))))))))) := by
  refine fnp_of hm F (fn_top (fun _ => False) (fun _ h => h.elim) F S__law_s_placing pen1 (fun x => [.im (cTup (tcC (cTup (tcC cInt (tcC cInt (tcC cInt (tc1 (cSeq (cTup (tcC cStr (tcC cStr (tc1 cBool)))))))))) (tcC cInt (tc1 (cLst (cLst (cTup (tcC cInt (tcC cInt (tcC cInt (tc1 cInt))))))))))) x, .no, .no, .no]) fun cdv A outer s H E hr C hB a_world => ?_) (fun _ _ _ _ _ _ us hl => match us, hl with | [_], _ => rfl)
  show GK _ C _ _ (m_law_s_placing a_world) _
  unfold m_law_s_placing
  exact (gk_one (gs_ret (ex_cast (c := (cSeq (cSeq (cSeq (cTup (tcC cInt (tc1 cInt))))))) (decQ (decQ (decT (decRC (decT (decRC decI (decR1 decI))) (decRC (decT (decRC decI (decR1 decI))) (decRC (decT (decRC decI (decR1 decI))) (decR1 (decT (decRC decI (decR1 decI)))))))))) (ex_callTT b_tupL T.tuple_ bt_tuple (ea_one (ex_froz (ef_lc rfl S__law_s_placing.nd (lc_map (c := (cLst (cTup (tcC cInt (tcC cInt (tcC cInt (tc1 cInt))))))) (d := (cSeq (cSeq (cTup (tcC cInt (tc1 cInt)))))) (ws := [1]) (up := fun Γ (x : (List (Int × Int × Int × Int))) => (Γ.set 1 (.im (cLst (cTup (tcC cInt (tcC cInt (tcC cInt (tc1 cInt)))))) x))) (blkOk_by (own := [("boxes", 1)]) (by kernel_rfl)) (fun C' sh H Cc cl fp => (ag_name 1 S__law_s_placing.nd)) (ei_lst (ex_ixT (i := 2) (nthS (nthS nthL)) (ex_var 0 (⟨_, _, rfl, fun ys7 => ⟨_, rfl, fun v8 => rfl⟩, fun C' sh H Cc cl fp x1 => ex_callTT b_tupL T.tuple_ bt_tuple (ea_one (ex_froz (ef_lc rfl S__law_s_placing.nd (lc_map (c := (cTup (tcC cInt (tcC cInt (tcC cInt (tc1 cInt)))))) (d := (cSeq (cTup (tcC cInt (tc1 cInt))))) (ws := [2]) (up := fun Γ (x : (Int × Int × Int × Int)) => (Γ.set 2 (.im (cTup (tcC cInt (tcC cInt (tcC cInt (tc1 cInt))))) x))) (blkOk_by (own := [("box", 2)]) (by kernel_rfl)) (fun C' sh H Cc cl fp => (ag_name 2 S__law_s_placing.nd)) (ei_lst (ex_var 1 (⟨_, _, rfl, fun ys6 => ⟨rfl, wk_refl⟩, fun C' sh H Cc cl fp x2 => ex_callTT b_tupL T.tuple_ bt_tuple (ea_one (ex_froz (ef_lc rfl S__law_s_placing.nd (lc_map (c := cInt) (d := (cTup (tcC cInt (tc1 cInt)))) (ws := [3]) (up := fun Γ (x : Int) => (Γ.set 3 (.im cInt x))) (blkOk_by (own := [("number", 3)]) (by kernel_rfl)) (fun C' sh H Cc cl fp => (ag_name 3 S__law_s_placing.nd)) (ei_seq (ex_tsq (tsqC (tsqC (tsqC tsq1))) (ex_var 2 (⟨_, _, rfl, fun ys5 => ⟨rfl, wk_refl⟩, fun C' sh H Cc cl fp x3 => ex_call F__law_low (hr.mono (by decide)) (ea_cons (ex_var 3 (ea_one (ex_ixT (i := 1) (nthS nthZ) (ex_var 0 (⟨_, rfl, fun v4 => ⟨rfl, wk_refl⟩⟩))))))⟩))))))))⟩)))))))⟩))))))))))))
theorem S__law_s_other : FnScope ["tape", "world", "new", "at", "mixed", "p", "q", "k"] ["tape", "world"] (defScope st__law_s_other) := ⟨rfl, rfl, rfl, by decide +kernel, rfl, by decide +kernel, by decide +kernel⟩
theorem ok__law_s_other {fa : Addr} {fd : FuncData} (T : Txt w K mg) (F : FunD K "_law_s_other" "_law_s_other" (defArgs st__law_s_other) (defBody st__law_s_other) (defScope st__law_s_other) [] [] fa fd) (hm : mg "_law_s_other" = some (.ref fa)) (F__law_s_world : FnP P w K mg base "_law_s_world" (4) ["tape", "head"] (spM K celT (tc1 (cTup (tcC cInt (tcC cInt (tcC cInt (tc1 (cSeq (cTup (tcC cStr (tcC cStr (tc1 cBool))))))))))) (fun tp x => m_law_s_world tp x) (cTup (tcC (cTup (tcC cInt (tcC cInt (tcC cInt (tc1 (cSeq (cTup (tcC cStr (tcC cStr (tc1 cBool)))))))))) (tcC cInt (tc1 (cLst (cLst (cTup (tcC cInt (tcC cInt (tcC cInt (tc1 cInt))))))))))))) (F__law_draw : FnP P w K mg base "_law_draw" (1) ["tape", "many"] (spM K celT (tc1 cInt) (fun tp x => m_law_draw tp x) cInt)) (F__law_pairs : FnP P w K mg base "_law_pairs" (1) ["head"] (spP K (tc1 (cTup (tcC cInt (tcC cInt (tcC cInt (tc1 (cSeq (cTup (tcC cStr (tcC cStr (tc1 cBool))))))))))) (fun x => m_law_pairs x) (cLst (cTup (tcC (cTup (tcC cStr (tc1 cInt))) (tc1 (cTup (tcC cStr (tc1 cInt))))))))) (F__law_lap : FnP P w K mg base "_law_lap" (3) ["one", "two"] (spP K (tcC (cLst (cTup (tcC cInt (tcC cInt (tcC cInt (tc1 cInt)))))) (tc1 (cLst (cTup (tcC cInt (tcC cInt (tcC cInt (tc1 cInt)))))))) (fun x => m_law_lap x.1 x.2) cBool)) (F__law_place : FnP P w K mg base "_law_place" (1) ["world", "ref"] (spP K (tcC (cTup (tcC (cTup (tcC cInt (tcC cInt (tcC cInt (tc1 (cSeq (cTup (tcC cStr (tcC cStr (tc1 cBool)))))))))) (tcC cInt (tc1 (cLst (cLst (cTup (tcC cInt (tcC cInt (tcC cInt (tc1 cInt))))))))))) (tc1 (cTup (tcC cStr (tc1 cInt))))) (fun x => m_law_place x.1 x.2) (cLst (cTup (tcC cInt (tcC cInt (tcC cInt (tc1 cInt)))))))) : FnP P w K mg base "_law_s_other" 5 ["tape", "world"] (spM K celT (tc1 (cTup (tcC (cTup (tcC cInt (tcC cInt (tcC cInt (tc1 (cSeq (cTup (tcC cStr (tcC cStr (tc1 cBool)))))))))) (tcC cInt (tc1 (cLst (cLst (cTup (tcC cInt (tcC cInt (tcC cInt (tc1 cInt)))))))))))) (fun tp x => m_law_s_other tp x) (cTup (tcC (cTup (tcC cInt (tcC cInt (tcC cInt (tc1 (cSeq (cTup (tcC cStr (tcC cStr (tc1 cBool)))))))))) (tcC cInt (tc1 (cLst (cLst (cTup (tcC cInt (tcC cInt (tcC cInt (tc1 cInt)))))))))))) := by
  refine fnp_of hm F (fn_topL F S__law_s_other pen1 (fun tp x => [.lp, .im (cTup (tcC (cTup (tcC cInt (tcC cInt (tcC cInt (tc1 (cSeq (cTup (tcC cStr (tcC cStr (tc1 cBool)))))))))) (tcC cInt (tc1 (cLst (cLst (cTup (tcC cInt (tcC cInt (tcC cInt (tc1 cInt))))))))))) x, .no, .no, .no, .no, .no, .no, .ln celT tp]) fun cdv A outer s H E hr C hB tp a_world => ?_) (fun _ _ _ _ _ _ us hl => match us, hl with | [_, _], _ => rfl)
  show GK _ C _ _ (m_law_s_other tp a_world) _
  unfold m_law_s_other
  exact (gk_cons (gs_set 2 (ex_callL 0 8 F__law_s_world (hr.mono (by decide)) (ea_one (ex_ixT (i := 0) nthZ (ex_var 1 (⟨_, rfl, rfl, _, rfl, fun v1 => gk_cons (gs_set 3 (ex_callL 0 8 F__law_draw (hr.mono (by decide)) (ea_one (ex_callBT b_lenL T.len_ bt_len (ea_one (ex_ixT (i := 2) (nthS (nthS nthL)) (ex_var 2 (⟨_, rfl, rfl, _, rfl, fun v2 => gk_cons (gs_let 4 (ex_tup (ea_cons (ex_ixT (i := 0) nthZ (ex_var 1 (ea_cons (ex_int (ea_one (ex_froz (ef_lc rfl S__law_s_other.nd (lc_map (c := cInt) (d := (cLst (cTup (tcC cInt (tcC cInt (tcC cInt (tc1 cInt))))))) (ws := [7]) (up := fun Γ (x : Int) => (Γ.set 7 (.im cInt x))) (blkOk_by (own := [("k", 7)]) (by kernel_rfl)) (fun C' sh H Cc cl fp => (ag_name 7 S__law_s_other.nd)) (ei_rng1 T.range_ (ex_callBT b_lenL T.len_ bt_len (ea_one (ex_ixT (i := 2) (nthS (nthS nthL)) (ex_var 2 (⟨_, rfl, fun v3 => ⟨_, _, rfl, fun ys8 => ⟨_, rfl, fun mixed_9 => gk_cons (gs_forF (c := (cTup (tcC (cTup (tcC cStr (tc1 cInt))) (tc1 (cTup (tcC cStr (tc1 cInt))))))) (fun (s11 : Unit) => [.lp, .im (cTup (tcC (cTup (tcC cInt (tcC cInt (tcC cInt (tc1 (cSeq (cTup (tcC cStr (tcC cStr (tc1 cBool)))))))))) (tcC cInt (tc1 (cLst (cLst (cTup (tcC cInt (tcC cInt (tcC cInt (tc1 cInt))))))))))) a_world, .im (cTup (tcC (cTup (tcC cInt (tcC cInt (tcC cInt (tc1 (cSeq (cTup (tcC cStr (tcC cStr (tc1 cBool)))))))))) (tcC cInt (tc1 (cLst (cLst (cTup (tcC cInt (tcC cInt (tcC cInt (tc1 cInt))))))))))) v1.1, .im cInt v2.1, .im (cTup (tcC (cTup (tcC cInt (tcC cInt (tcC cInt (tc1 (cSeq (cTup (tcC cStr (tcC cStr (tc1 cBool)))))))))) (tcC cInt (tc1 (cLst (cLst (cTup (tcC cInt (tcC cInt (tcC cInt (tc1 cInt))))))))))) mixed_9, .no, .no, .no, .ln celT v2.2]) rfl (ag_tup rfl (ags_cons (ag_name 5 S__law_s_other.nd) (ags_one (ag_name 6 S__law_s_other.nd)))) (ei_lst (ex_call F__law_pairs (hr.mono (by decide)) (ea_one (ex_ixT (i := 0) nthZ (ex_var 1 (⟨_, rfl, fun v10 => ⟨_, _, _, rfl, wk_refl, fun x12 s11 => gk_one (gs_ifR (et_val (ex_call F__law_lap (hr.mono (by decide)) (ea_cons (ex_call F__law_place (hr.mono (by decide)) (ea_cons (ex_var 4 (ea_one (ex_var 5 (⟨_, rfl, fun v13 => ea_one (ex_call F__law_place (hr.mono (by decide)) (ea_cons (ex_var 4 (ea_one (ex_var 6 (⟨_, rfl, fun v14 => ⟨_, rfl, fun v15 => ⟨_, _, rfl, gk_one (gs_retL 8 (ex_var 2 (by exact ⟨_, rfl, rfl⟩))), ⟨_, rfl, wk_drops [5, 6]⟩⟩⟩⟩))))))⟩)))))))))), fun s11 => gk_one (gs_retL 8 (ex_ifT (et_cmp o_gt (ex_callL 0 8 F__law_draw (hr.mono (by decide)) (ea_one (ex_int (⟨_, rfl, rfl, _, rfl, fun v16 => ex_int (⟨mixed_9, v1.1, ex_var 4 (fin wk_refl), ex_var 2 (fin wk_refl), by exact ⟨_, rfl, rfl⟩⟩)⟩))))))), fun _ => rfl⟩⟩)))))) .never)⟩, fun C' sh H Cc cl fp x4 => ex_if (fun (c : (List (Int × Int × Int × Int))) => c) (fun _ => [.lp, .im (cTup (tcC (cTup (tcC cInt (tcC cInt (tcC cInt (tc1 (cSeq (cTup (tcC cStr (tcC cStr (tc1 cBool)))))))))) (tcC cInt (tc1 (cLst (cLst (cTup (tcC cInt (tcC cInt (tcC cInt (tc1 cInt))))))))))) a_world, .im (cTup (tcC (cTup (tcC cInt (tcC cInt (tcC cInt (tc1 (cSeq (cTup (tcC cStr (tcC cStr (tc1 cBool)))))))))) (tcC cInt (tc1 (cLst (cLst (cTup (tcC cInt (tcC cInt (tcC cInt (tc1 cInt))))))))))) v1.1, .im cInt v2.1, .no, .no, .no, .im cInt x4, .ln celT v2.2]) (et_cmp o_eq (ex_var 7 (ex_var 3 (⟨_, _, _, rfl, ex_ixL (ex_ixT (i := 2) (nthS (nthS nthL)) (ex_var 2 (ex_var 7 (⟨_, rfl, fun v5 => fin wk_refl⟩)))), ex_ixL (ex_ixT (i := 2) (nthS (nthS nthL)) (ex_var 1 (ex_var 7 (⟨_, rfl, fun v6 => fin wk_refl⟩)))), fun c7 => ⟨rfl, wk_refl⟩⟩))))⟩⟩)))))))))))))))) S__law_s_other.nd)⟩))))))) S__law_s_other.nd)⟩))))) S__law_s_other.nd))
def m_law_region (a_head : (Int × Int × Int × (List (Str × Str × Bool)))) (a_placing : (List (List ((Int × Int) × (Int × Int) × (Int × Int) × (Int × Int))))) (a_ref : (Str × Int)) : Option (List ((Int × Int) × (Int × Int) × (Int × Int) × (Int × Int))) :=
 mapR (fun x1 => some x1.1) a_head.2.2.2 >>= fun ys2 =>
 idxR ys2 a_ref.1 >>= fun v3 =>
 atI a_head.2.2.2 v3 >>= fun v4 =>
 cond (decide (v4.2.1 = ("land" : Str))) (atI a_placing v3 >>= fun v5 =>
 some v5) (atI a_placing v3 >>= fun v6 =>
 atI a_head.2.2.2 v3 >>= fun v7 =>
 atI v6 (cond v7.2.2 a_ref.2 (0 : Int)) >>= fun v8 =>
 some ([v8]))
theorem S__law_region : FnScope ["head", "placing", "ref", "at", "thing"] ["head", "placing", "ref"] (defScope st__law_region) := ⟨rfl, rfl, rfl, by decide +kernel, rfl, by decide +kernel, by decide +kernel⟩
theorem ok__law_region {fa : Addr} {fd : FuncData} (T : Txt w K mg) (F : FunD K "_law_region" "_law_region" (defArgs st__law_region) (defBody st__law_region) (defScope st__law_region) [] [] fa fd) (hm : mg "_law_region" = some (.ref fa)) : FnP P w K mg base "_law_region" 1 ["head", "placing", "ref"] (spP K (tcC (cTup (tcC cInt (tcC cInt (tcC cInt (tc1 (cSeq (cTup (tcC cStr (tcC cStr (tc1 cBool)))))))))) (tcC (cSeq (cSeq (cTup (tcC (cTup (tcC cInt (tc1 cInt))) (tcC (cTup (tcC cInt (tc1 cInt))) (tcC (cTup (tcC cInt (tc1 cInt))) (tc1 (cTup (tcC cInt (tc1 cInt)))))))))) (tc1 (cTup (tcC cStr (tc1 cInt)))))) (fun x => m_law_region x.1 x.2.1 x.2.2) (cSeq (cTup (tcC (cTup (tcC cInt (tc1 cInt))) (tcC (cTup (tcC cInt (tc1 cInt))) (tcC (cTup (tcC cInt (tc1 cInt))) (tc1 (cTup (tcC cInt (tc1 cInt)))))))))) := by
  refine fnp_of hm F (fn_top (fun _ => False) (fun _ h => h.elim) F S__law_region (penC (penC pen1)) (fun x => [.im (cTup (tcC cInt (tcC cInt (tcC cInt (tc1 (cSeq (cTup (tcC cStr (tcC cStr (tc1 cBool)))))))))) x.1, .im (cSeq (cSeq (cTup (tcC (cTup (tcC cInt (tc1 cInt))) (tcC (cTup (tcC cInt (tc1 cInt))) (tcC (cTup (tcC cInt (tc1 cInt))) (tc1 (cTup (tcC cInt (tc1 cInt)))))))))) x.2.1, .im (cTup (tcC cStr (tc1 cInt))) x.2.2, .no, .no]) fun cdv A outer s H E hr C hB x => ?_) (fun _ _ _ _ _ _ us hl => match us, hl with | [_, _, _], _ => rfl)
  obtain ⟨a_head, a_placing, a_ref⟩ := x
  show GK _ C _ _ (m_law_region a_head a_placing a_ref) _
  unfold m_law_region
  exact (gk_cons (gs_set 3 (ex_idxL flatS (ex_froz (ef_lc rfl S__law_region.nd (lc_map (c := (cTup (tcC cStr (tcC cStr (tc1 cBool))))) (d := cStr) (ws := [4]) (up := fun Γ (x : (Str × Str × Bool)) => (Γ.set 4 (.im (cTup (tcC cStr (tcC cStr (tc1 cBool)))) x))) (blkOk_by (own := [("thing", 4)]) (by kernel_rfl)) (fun C' sh H Cc cl fp => (ag_name 4 S__law_region.nd)) (ei_seq (ex_ixT (i := 3) (nthS (nthS (nthS nthL))) (ex_var 0 (⟨_, _, rfl, fun ys2 => ex_ixT (i := 0) nthZ (ex_var 2 (⟨_, rfl, fun v3 => gk_cons (gs_ifR (et_cmp o_eqS (ex_ixT (i := 1) (nthS nthZ) (ex_ixS (ex_ixT (i := 3) (nthS (nthS (nthS nthL))) (ex_var 0 (ex_var 3 (⟨_, rfl, fun v4 => ex_str (⟨_, _, rfl, gk_one (gs_ret (ex_ixS (ex_var 1 (ex_var 3 (⟨_, rfl, fun v5 => rfl⟩))))), gk_one (gs_ret (ex_tupS (el_cons (ex_ixS (ex_ixS (ex_var 1 (ex_var 3 (⟨_, rfl, fun v6 => ex_ifT (et_val (ex_ixT (i := 2) (nthS (nthS nthL)) (ex_ixS (ex_ixT (i := 3) (nthS (nthS (nthS nthL))) (ex_var 0 (ex_var 3 (⟨_, rfl, fun v7 => ⟨a_ref.2, (0 : Int), ex_ixT (i := 1) (nthS nthL) (ex_var 2 (fin wk_refl)), ex_int (fin wk_refl), ⟨_, rfl, fun v8 => el_nil (rfl)⟩⟩⟩)))))))⟩))))))))⟩)⟩))))))))⟩)), fun C' sh H Cc cl fp x1 => ex_ixT (i := 0) nthZ (ex_var 4 (⟨rfl, wk_refl⟩))⟩)))))))) S__law_region.nd))
def m_law_solid_right (a_head : (Int × Int × Int × (List (Str × Str × Bool)))) : Option Bool :=
 m_solidities a_head >>= fun v1 =>
 m_law_pairs a_head >>= fun v2 =>
 mapR (fun x3 => some (("not" : Str), (("laps" : Str), x3.1, x3.2))) v2 >>= fun ys4 =>
 m_law_same 6 ((uSeq (uTup (uRC uStr (uR1 (uTup (uRC uStr (uRC (uTup (uRC uStr (uR1 uInt))) (uR1 (uTup (uRC uStr (uR1 uInt))))))))))) v1) ((uSeq (uTup (uRC uStr (uR1 (uTup (uRC uStr (uRC (uTup (uRC uStr (uR1 uInt))) (uR1 (uTup (uRC uStr (uR1 uInt))))))))))) ys4) >>= fun v5 =>
 some v5
theorem S__law_solid_right : FnScope ["head", "p", "q"] ["head"] (defScope st__law_solid_right) := ⟨rfl, rfl, rfl, by decide +kernel, rfl, by decide +kernel, by decide +kernel⟩
theorem ok__law_solid_right {fa : Addr} {fd : FuncData} (T : Txt w K mg) (F : FunD K "_law_solid_right" "_law_solid_right" (defArgs st__law_solid_right) (defBody st__law_solid_right) (defScope st__law_solid_right) [] [] fa fd) (hm : mg "_law_solid_right" = some (.ref fa)) (F__law_same : ∀ fuel : Nat, FnP P w K mg base "_law_same" (1 + fuel) ["told", "wanted"] (spP K (tcC cU (tc1 cU)) (fun x => m_law_same fuel x.1 x.2) cBool)) (F_solidities : FnP P w K mg base "solidities" (4) ["head"] (spP K (tc1 (cTup (tcC cInt (tcC cInt (tcC cInt (tc1 (cSeq (cTup (tcC cStr (tcC cStr (tc1 cBool))))))))))) (fun x => m_solidities x) (cSeq (cTup (tcC cStr (tc1 (cTup (tcC cStr (tcC (cTup (tcC cStr (tc1 cInt))) (tc1 (cTup (tcC cStr (tc1 cInt))))))))))))) (F__law_pairs : FnP P w K mg base "_law_pairs" (1) ["head"] (spP K (tc1 (cTup (tcC cInt (tcC cInt (tcC cInt (tc1 (cSeq (cTup (tcC cStr (tcC cStr (tc1 cBool))))))))))) (fun x => m_law_pairs x) (cLst (cTup (tcC (cTup (tcC cStr (tc1 cInt))) (tc1 (cTup (tcC cStr (tc1 cInt))))))))) : FnP P w K mg base "_law_solid_right" 8 ["head"] (spP K (tc1 (cTup (tcC cInt (tcC cInt (tcC cInt (tc1 (cSeq (cTup (tcC cStr (tcC cStr (tc1 cBool))))))))))) (fun x => m_law_solid_right x) cBool) := by
  refine fnp_of hm F (fn_top (fun _ => False) (fun _ h => h.elim) F S__law_solid_right pen1 (fun x => [.im (cTup (tcC cInt (tcC cInt (tcC cInt (tc1 (cSeq (cTup (tcC cStr (tcC cStr (tc1 cBool)))))))))) x, .no, .no]) fun cdv A outer s H E hr C hB a_head => ?_) (fun _ _ _ _ _ _ us hl => match us, hl with | [_], _ => rfl)
  show GK _ C _ _ (m_law_solid_right a_head) _
  unfold m_law_solid_right
  exact (gk_one (gs_ret (ex_call (F__law_same 6) (hr.mono (by decide)) (ea_cons (ex_u (c := (cSeq (cTup (tcC cStr (tc1 (cTup (tcC cStr (tcC (cTup (tcC cStr (tc1 cInt))) (tc1 (cTup (tcC cStr (tc1 cInt)))))))))))) (ex_call F_solidities (hr.mono (by decide)) (ea_one (ex_var 0 (⟨_, rfl, fun v1 => ea_one (ex_u (c := (cSeq (cTup (tcC cStr (tc1 (cTup (tcC cStr (tcC (cTup (tcC cStr (tc1 cInt))) (tc1 (cTup (tcC cStr (tc1 cInt)))))))))))) (ex_callTT b_tupL T.tuple_ bt_tuple (ea_one (ex_froz (ef_lc rfl S__law_solid_right.nd (lc_map (c := (cTup (tcC (cTup (tcC cStr (tc1 cInt))) (tc1 (cTup (tcC cStr (tc1 cInt))))))) (d := (cTup (tcC cStr (tc1 (cTup (tcC cStr (tcC (cTup (tcC cStr (tc1 cInt))) (tc1 (cTup (tcC cStr (tc1 cInt))))))))))) (ws := [1, 2]) (up := fun Γ (x : ((Str × Int) × (Str × Int))) => ((Γ.set 1 (.im (cTup (tcC cStr (tc1 cInt))) x.1)).set 2 (.im (cTup (tcC cStr (tc1 cInt))) x.2))) (blkOk_by (own := [("p", 1), ("q", 2)]) (by kernel_rfl)) (fun C' sh H Cc cl fp => (ag_as (ag_tup rfl (ags_cons (ag_name 1 S__law_solid_right.nd) (ags_one (ag_name 2 S__law_solid_right.nd)))))) (ei_lst (ex_call F__law_pairs (hr.mono (by decide)) (ea_one (ex_var 0 (⟨_, rfl, fun v2 => ⟨_, _, rfl, fun ys4 => ⟨_, rfl, fun v5 => rfl⟩, fun C' sh H Cc cl fp x3 => ex_tup (ea_cons (ex_str (ea_one (ex_tup (ea_cons (ex_str (ea_cons (ex_var 1 (ea_one (ex_var 2 (⟨rfl, wk_refl⟩)))))))))))⟩⟩)))))))))))⟩)))))))))
def m_law_changed (tp : Tape) (a_head : (Int × Int × Int × (List (Str × Str × Bool)))) : Option ((Int × Int × Int × (List (Str × Str × Bool))) × Tape) :=
 m_law_draw tp (3 : Int) >>= fun v1 =>
 cond (decide (v1.1 = (0 : Int))) ((dSeq some) ((uTup (uRC uInt (uRC uInt (uRC uInt (uR1 (uSeq (uTup (uRC uStr (uRC uStr (uR1 uBool)))))))))) a_head) >>= fun v2 =>
 m_law_shuffled v1.2 a_head.2.2.2 >>= fun v3 =>
 m_law_put v2 (3 : Int) ((uSeq (uTup (uRC uStr (uRC uStr (uR1 uBool))))) v3.1) >>= fun v4 =>
 (dTup (dRC dInt (dRC dInt (dRC dInt (dR1 (dSeq (dTup (dRC dStr (dRC dStr (dR1 dBool)))))))))) ((uSeq id) v4) >>= fun v5 =>
 some (v5, v3.2)) (m_law_draw v1.2 (a_head.2.2.2.length : Int) >>= fun v6 =>
 m_law_pick v6.2 ([("body" : Str), ("body" : Str), ("upright" : Str), ("lying" : Str), ("area" : Str), ("spot" : Str), ("land" : Str)]) >>= fun v7 =>
 (cond (decide (v7.1 ∈ [("body" : Str), ("area" : Str), ("spot" : Str)])) (m_law_draw v7.2 (2 : Int) >>= fun v8 =>
 some ((decide (v8.1 = (0 : Int))), v8.2)) (some (false, v7.2))) >>= fun c9 =>
 (dSeq some) ((uTup (uRC uInt (uRC uInt (uRC uInt (uR1 (uSeq (uTup (uRC uStr (uRC uStr (uR1 uBool)))))))))) a_head) >>= fun v11 =>
 (dSeq some) ((uSeq (uTup (uRC uStr (uRC uStr (uR1 uBool))))) a_head.2.2.2) >>= fun v12 =>
 atI a_head.2.2.2 v6.1 >>= fun v13 =>
 m_law_put v12 v6.1 ((uTup (uRC uStr (uRC uStr (uR1 uBool)))) (v13.1, v7.1, c9.1)) >>= fun v14 =>
 m_law_put v11 (3 : Int) ((uSeq id) v14) >>= fun v15 =>
 (dTup (dRC dInt (dRC dInt (dRC dInt (dR1 (dSeq (dTup (dRC dStr (dRC dStr (dR1 dBool)))))))))) ((uSeq id) v15) >>= fun v16 =>
 some (v16, c9.2))
theorem S__law_changed : FnScope ["tape", "head", "at", "sort", "moves"] ["tape", "head"] (defScope st__law_changed) := ⟨rfl, rfl, rfl, by decide +kernel, rfl, by decide +kernel, by decide +kernel⟩
theorem ok__law_changed {fa : Addr} {fd : FuncData} (T : Txt w K mg) (F : FunD K "_law_changed" "_law_changed" (defArgs st__law_changed) (defBody st__law_changed) (defScope st__law_changed) [] [] fa fd) (hm : mg "_law_changed" = some (.ref fa)) (F__law_draw : FnP P w K mg base "_law_draw" (1) ["tape", "many"] (spM K celT (tc1 cInt) (fun tp x => m_law_draw tp x) cInt)) (F__law_put : FnP P w K mg base "_law_put" (1) ["told", "place", "thing"] (spP K (tcC (cSeq cU) (tcC cInt (tc1 cU))) (fun x => m_law_put x.1 x.2.1 x.2.2) (cSeq cU))) (F__law_shuffled : ∀ {Aa : Type} (ca : Cod K Aa), FnP P w K mg base "_law_shuffled" (2) ["tape", "menu"] (spMN K celT (tc1 (cRow ca)) (fun tp x => m_law_shuffled tp x) (lstC ca))) (F__law_pick : ∀ {Aa : Type} (ca : Cod K Aa), FnP P w K mg base "_law_pick" (2) ["tape", "menu"] (spM K celT (tc1 (cRow ca)) (fun tp x => m_law_pick tp x) ca)) : FnP P w K mg base "_law_changed" 3 ["tape", "head"] (spM K celT (tc1 (cTup (tcC cInt (tcC cInt (tcC cInt (tc1 (cSeq (cTup (tcC cStr (tcC cStr (tc1 cBool))))))))))) (fun tp x => m_law_changed tp x) (cTup (tcC cInt (tcC cInt (tcC cInt (tc1 (cSeq (cTup (tcC cStr (tcC cStr (tc1 cBool))))))))))) := by
  refine fnp_of hm F (fn_topL F S__law_changed pen1 (fun tp x => [.lp, .im (cTup (tcC cInt (tcC cInt (tcC cInt (tc1 (cSeq (cTup (tcC cStr (tcC cStr (tc1 cBool)))))))))) x, .no, .no, .no, .ln celT tp]) fun cdv A outer s H E hr C hB tp a_head => ?_) (fun _ _ _ _ _ _ us hl => match us, hl with | [_, _], _ => rfl)
  show GK _ C _ _ (m_law_changed tp a_head) _
  unfold m_law_changed
  exact (gk_cons (gs_ifR (et_cmp o_eq (ex_callL 0 5 F__law_draw (hr.mono (by decide)) (ea_one (ex_int (⟨_, rfl, rfl, _, rfl, fun v1 => ex_int (⟨_, _, rfl, gk_one (gs_retL 5 (ex_cast (c := (cSeq cU)) (decT (decRC decI (decRC decI (decRC decI (decR1 (decQ (decT (decRC decS (decRC decS (decR1 decB)))))))))) (ex_call F__law_put (hr.mono (by decide)) (ea_cons (ex_cast (c := (cTup (tcC cInt (tcC cInt (tcC cInt (tc1 (cSeq (cTup (tcC cStr (tcC cStr (tc1 cBool))))))))))) (decQ decU) (ex_var 1 (⟨_, rfl, fun v2 => ea_cons (ex_int (ea_one (ex_u (c := (cSeq (cTup (tcC cStr (tcC cStr (tc1 cBool)))))) (ex_callTT b_tupL T.tuple_ bt_tuple (ea_one (ex_froz (ef_callL 0 5 (F__law_shuffled (cTup (tcC cStr (tcC cStr (tc1 cBool))))) (hr.mono (by decide)) (ea_one (ex_rowS (ex_ixT (i := 3) (nthS (nthS (nthS nthL))) (ex_var 1 (⟨_, rfl, rfl, _, rfl, fun v3 => ⟨_, rfl, fun v4 => ⟨_, rfl, fun v5 => by exact ⟨_, rfl, rfl⟩⟩⟩⟩))))))))))))⟩))))))), gk_cons (gs_set 2 (ex_callL 0 5 F__law_draw (hr.mono (by decide)) (ea_one (ex_callBT b_lenS T.len_ bt_len (ea_one (ex_ixT (i := 3) (nthS (nthS (nthS nthL))) (ex_var 1 (⟨_, rfl, rfl, _, rfl, fun v6 => gk_cons (gs_set 3 (ex_callL 0 5 (F__law_pick cStr) (hr.mono (by decide)) (ea_one (ex_rowL (ex_froz (ef_lst (el_cons (ex_str (el_cons (ex_str (el_cons (ex_str (el_cons (ex_str (el_cons (ex_str (el_cons (ex_str (el_cons (ex_str (el_nil (⟨_, rfl, rfl, _, rfl, fun v7 => gk_cons (gs_set 4 (ex_and (fun (z10 : Bool × Tape) => z10.1) (fun (z10 : Bool × Tape) => [.lp, .im (cTup (tcC cInt (tcC cInt (tcC cInt (tc1 (cSeq (cTup (tcC cStr (tcC cStr (tc1 cBool)))))))))) a_head, .im cInt v6.1, .im cStr v7.1, .no, .ln celT z10.2]) (ex_cmp (o_inL flatS) (ex_var 3 (ex_froz (ef_lst (el_cons (ex_str (el_cons (ex_str (el_cons (ex_str (el_nil (⟨_, (false, v7.2), _, rfl, rfl, wk_refl, ex_one (ex_cmp o_eq (ex_callL 0 5 F__law_draw (hr.mono (by decide)) (ea_one (ex_int (⟨_, rfl, rfl, _, rfl, fun v8 => ex_int (fin (s := ((decide (v8.1 = (0 : Int))), v8.2)) wk_refl)⟩))))), fun c9 => gk_one (gs_retL 5 (ex_cast (c := (cSeq cU)) (decT (decRC decI (decRC decI (decRC decI (decR1 (decQ (decT (decRC decS (decRC decS (decR1 decB)))))))))) (ex_call F__law_put (hr.mono (by decide)) (ea_cons (ex_cast (c := (cTup (tcC cInt (tcC cInt (tcC cInt (tc1 (cSeq (cTup (tcC cStr (tcC cStr (tc1 cBool))))))))))) (decQ decU) (ex_var 1 (⟨_, rfl, fun v11 => ea_cons (ex_int (ea_one (ex_u (c := (cSeq cU)) (ex_call F__law_put (hr.mono (by decide)) (ea_cons (ex_cast (c := (cSeq (cTup (tcC cStr (tcC cStr (tc1 cBool)))))) (decQ decU) (ex_ixT (i := 3) (nthS (nthS (nthS nthL))) (ex_var 1 (⟨_, rfl, fun v12 => ea_cons (ex_var 2 (ea_one (ex_u (c := (cTup (tcC cStr (tcC cStr (tc1 cBool))))) (ex_tup (ea_cons (ex_ixT (i := 0) nthZ (ex_ixS (ex_ixT (i := 3) (nthS (nthS (nthS nthL))) (ex_var 1 (ex_var 2 (⟨_, rfl, fun v13 => ea_cons (ex_var 3 (ea_one (ex_var 4 (⟨_, rfl, fun v14 => ⟨_, rfl, fun v15 => ⟨_, rfl, fun v16 => by exact ⟨_, rfl, rfl⟩⟩⟩⟩))))⟩)))))))))))⟩)))))))))⟩)))))))⟩))))))))))))) S__law_changed.nd)⟩))))))))))))))))))))) S__law_changed.nd)⟩))))))) S__law_changed.nd)⟩)⟩)))))))
def m_law_longer_head (tp : Tape) (a_head : (Int × Int × Int × (List (Str × Str × Bool)))) : Option ((Option (Int × Int × Int × (List (Str × Str × Bool)))) × Tape) :=
 m_law_draw tp ((7 : Int) - a_head.2.2.1) >>= fun v1 =>
 lt (a_head.2.2.1 + v1.1) fun many_2 =>
 lt (a_head.1, a_head.2.1, many_2, a_head.2.2.2) fun due_3 =>
 m_longer a_head many_2 >>= fun v4 =>
 m_law_same 6 ((uTup (uRC uInt (uRC uInt (uRC uInt (uR1 (uSeq (uTup (uRC uStr (uRC uStr (uR1 uBool)))))))))) v4) ((uTup (uRC uInt (uRC uInt (uRC uInt (uR1 (uSeq (uTup (uRC uStr (uRC uStr (uR1 uBool)))))))))) due_3) >>= fun v5 =>
 some ((cond v5 (some due_3) none), v1.2)
theorem S__law_longer_head : FnScope ["tape", "head", "many", "due"] ["tape", "head"] (defScope st__law_longer_head) := ⟨rfl, rfl, rfl, by decide +kernel, rfl, by decide +kernel, by decide +kernel⟩
theorem ok__law_longer_head {fa : Addr} {fd : FuncData} (T : Txt w K mg) (F : FunD K "_law_longer_head" "_law_longer_head" (defArgs st__law_longer_head) (defBody st__law_longer_head) (defScope st__law_longer_head) [] [] fa fd) (hm : mg "_law_longer_head" = some (.ref fa)) (F__law_draw : FnP P w K mg base "_law_draw" (1) ["tape", "many"] (spM K celT (tc1 cInt) (fun tp x => m_law_draw tp x) cInt)) (F__law_same : ∀ fuel : Nat, FnP P w K mg base "_law_same" (1 + fuel) ["told", "wanted"] (spP K (tcC cU (tc1 cU)) (fun x => m_law_same fuel x.1 x.2) cBool)) (F_longer : FnP P w K mg base "longer" (1) ["head", "moments"] (spP K (tcC (cTup (tcC cInt (tcC cInt (tcC cInt (tc1 (cSeq (cTup (tcC cStr (tcC cStr (tc1 cBool)))))))))) (tc1 cInt)) (fun x => m_longer x.1 x.2) (cTup (tcC cInt (tcC cInt (tcC cInt (tc1 (cSeq (cTup (tcC cStr (tcC cStr (tc1 cBool)))))))))))) : FnP P w K mg base "_law_longer_head" 8 ["tape", "head"] (spM K celT (tc1 (cTup (tcC cInt (tcC cInt (tcC cInt (tc1 (cSeq (cTup (tcC cStr (tcC cStr (tc1 cBool))))))))))) (fun tp x => m_law_longer_head tp x) (cOpt (cTup (tcC cInt (tcC cInt (tcC cInt (tc1 (cSeq (cTup (tcC cStr (tcC cStr (tc1 cBool)))))))))))) := by
  refine fnp_of hm F (fn_topL F S__law_longer_head pen1 (fun tp x => [.lp, .im (cTup (tcC cInt (tcC cInt (tcC cInt (tc1 (cSeq (cTup (tcC cStr (tcC cStr (tc1 cBool)))))))))) x, .no, .no, .ln celT tp]) fun cdv A outer s H E hr C hB tp a_head => ?_) (fun _ _ _ _ _ _ us hl => match us, hl with | [_, _], _ => rfl)
  show GK _ C _ _ (m_law_longer_head tp a_head) _
  unfold m_law_longer_head
  exact (gk_cons (gs_let 2 (ex_op2T o_add (ex_ixT (i := 2) (nthS (nthS nthZ)) (ex_var 1 (ex_callL 0 4 F__law_draw (hr.mono (by decide)) (ea_one (ex_op2T o_sub (ex_int (ex_ixT (i := 2) (nthS (nthS nthZ)) (ex_var 1 (⟨_, rfl, rfl, _, rfl, fun v1 => ⟨_, rfl, fun many_2 => gk_cons (gs_let 3 (ex_tup (ea_cons (ex_ixT (i := 0) nthZ (ex_var 1 (ea_cons (ex_ixT (i := 1) (nthS nthZ) (ex_var 1 (ea_cons (ex_var 2 (ea_one (ex_ixT (i := 3) (nthS (nthS (nthS nthL))) (ex_var 1 (⟨_, rfl, fun due_3 => gk_one (gs_retL 4 (ex_ifT (et_val (ex_call (F__law_same 6) (hr.mono (by decide)) (ea_cons (ex_u (c := (cTup (tcC cInt (tcC cInt (tcC cInt (tc1 (cSeq (cTup (tcC cStr (tcC cStr (tc1 cBool))))))))))) (ex_call F_longer (hr.mono (by decide)) (ea_cons (ex_var 1 (ea_one (ex_var 2 (⟨_, rfl, fun v4 => ea_one (ex_u (c := (cTup (tcC cInt (tcC cInt (tcC cInt (tc1 (cSeq (cTup (tcC cStr (tcC cStr (tc1 cBool))))))))))) (ex_var 3 (⟨_, rfl, fun v5 => ⟨(some due_3), none, ex_some nnT (ex_var 3 (fin wk_refl)), ex_non (fin wk_refl), by exact ⟨_, rfl, rfl⟩⟩⟩)))⟩))))))))))))⟩))))))))))))) S__law_longer_head.nd)⟩⟩)))))))))) S__law_longer_head.nd))
def m_law_region_right (a_door : Int) (a_head : (Int × Int × Int × (List (Str × Str × Bool)))) (a_placing : (List (List ((Int × Int) × (Int × Int) × (Int × Int) × (Int × Int))))) (a_ref : (Str × Int)) : Option Bool :=
 m_law_region a_head a_placing a_ref >>= fun v1 =>
 (cond (decide (a_door = (1 : Int))) (some true) (m_law_sort (a_head, (1 : Int), ((uTup uR0) ())) a_ref.1 >>= fun v2 =>
 some (decide (v2 = ("land" : Str))))) >>= fun c3 =>
 cond c3 (m_region_of a_head a_placing a_ref >>= fun v4 =>
 m_law_same 6 ((uSeq (uTup (uRC (uTup (uRC uInt (uR1 uInt))) (uRC (uTup (uRC uInt (uR1 uInt))) (uRC (uTup (uRC uInt (uR1 uInt))) (uR1 (uTup (uRC uInt (uR1 uInt))))))))) v4) ((uSeq (uTup (uRC (uTup (uRC uInt (uR1 uInt))) (uRC (uTup (uRC uInt (uR1 uInt))) (uRC (uTup (uRC uInt (uR1 uInt))) (uR1 (uTup (uRC uInt (uR1 uInt))))))))) v1) >>= fun v5 =>
 some v5) (m_box_of a_head a_placing a_ref >>= fun v6 =>
 atI v1 (0 : Int) >>= fun v7 =>
 m_law_same 6 ((uTup (uRC (uTup (uRC uInt (uR1 uInt))) (uRC (uTup (uRC uInt (uR1 uInt))) (uRC (uTup (uRC uInt (uR1 uInt))) (uR1 (uTup (uRC uInt (uR1 uInt)))))))) v6) ((uTup (uRC (uTup (uRC uInt (uR1 uInt))) (uRC (uTup (uRC uInt (uR1 uInt))) (uRC (uTup (uRC uInt (uR1 uInt))) (uR1 (uTup (uRC uInt (uR1 uInt)))))))) v7) >>= fun v8 =>
 some v8)
theorem S__law_region_right : FnScope ["door", "head", "placing", "ref", "due"] ["door", "head", "placing", "ref"] (defScope st__law_region_right) := ⟨rfl, rfl, rfl, by decide +kernel, rfl, by decide +kernel, by decide +kernel⟩
theorem ok__law_region_right {fa : Addr} {fd : FuncData} (T : Txt w K mg) (F : FunD K "_law_region_right" "_law_region_right" (defArgs st__law_region_right) (defBody st__law_region_right) (defScope st__law_region_right) [] [] fa fd) (hm : mg "_law_region_right" = some (.ref fa)) (F__law_region : FnP P w K mg base "_law_region" (1) ["head", "placing", "ref"] (spP K (tcC (cTup (tcC cInt (tcC cInt (tcC cInt (tc1 (cSeq (cTup (tcC cStr (tcC cStr (tc1 cBool)))))))))) (tcC (cSeq (cSeq (cTup (tcC (cTup (tcC cInt (tc1 cInt))) (tcC (cTup (tcC cInt (tc1 cInt))) (tcC (cTup (tcC cInt (tc1 cInt))) (tc1 (cTup (tcC cInt (tc1 cInt)))))))))) (tc1 (cTup (tcC cStr (tc1 cInt)))))) (fun x => m_law_region x.1 x.2.1 x.2.2) (cSeq (cTup (tcC (cTup (tcC cInt (tc1 cInt))) (tcC (cTup (tcC cInt (tc1 cInt))) (tcC (cTup (tcC cInt (tc1 cInt))) (tc1 (cTup (tcC cInt (tc1 cInt))))))))))) (F__law_sort : FnP P w K mg base "_law_sort" (1) ["world", "name"] (spP K (tcC (cTup (tcC (cTup (tcC cInt (tcC cInt (tcC cInt (tc1 (cSeq (cTup (tcC cStr (tcC cStr (tc1 cBool)))))))))) (tcC cInt (tc1 cU)))) (tc1 cStr)) (fun x => m_law_sort x.1 x.2) cStr)) (F__law_same : ∀ fuel : Nat, FnP P w K mg base "_law_same" (1 + fuel) ["told", "wanted"] (spP K (tcC cU (tc1 cU)) (fun x => m_law_same fuel x.1 x.2) cBool)) (F_region_of : FnP P w K mg base "region_of" (3) ["head", "placing", "ref"] (spP K (tcC (cTup (tcC cInt (tcC cInt (tcC cInt (tc1 (cSeq (cTup (tcC cStr (tcC cStr (tc1 cBool)))))))))) (tcC (cSeq (cSeq (cTup (tcC (cTup (tcC cInt (tc1 cInt))) (tcC (cTup (tcC cInt (tc1 cInt))) (tcC (cTup (tcC cInt (tc1 cInt))) (tc1 (cTup (tcC cInt (tc1 cInt)))))))))) (tc1 (cTup (tcC cStr (tc1 cInt)))))) (fun x => m_region_of x.1 x.2.1 x.2.2) (cSeq (cTup (tcC (cTup (tcC cInt (tc1 cInt))) (tcC (cTup (tcC cInt (tc1 cInt))) (tcC (cTup (tcC cInt (tc1 cInt))) (tc1 (cTup (tcC cInt (tc1 cInt))))))))))) (F_box_of : FnP P w K mg base "box_of" (4) ["head", "placing", "ref"] (spP K (tcC (cTup (tcC cInt (tcC cInt (tcC cInt (tc1 (cSeq (cTup (tcC cStr (tcC cStr (tc1 cBool)))))))))) (tcC (cSeq (cSeq (cTup (tcC (cTup (tcC cInt (tc1 cInt))) (tcC (cTup (tcC cInt (tc1 cInt))) (tcC (cTup (tcC cInt (tc1 cInt))) (tc1 (cTup (tcC cInt (tc1 cInt)))))))))) (tc1 (cTup (tcC cStr (tc1 cInt)))))) (fun x => m_box_of x.1 x.2.1 x.2.2) (cTup (tcC (cTup (tcC cInt (tc1 cInt))) (tcC (cTup (tcC cInt (tc1 cInt))) (tcC (cTup (tcC cInt (tc1 cInt))) (tc1 (cTup (tcC cInt (tc1 cInt)))))))))) : FnP P w K mg base "_law_region_right" 8 ["door", "head", "placing", "ref"] (spP K (tcC cInt (tcC (cTup (tcC cInt (tcC cInt (tcC cInt (tc1 (cSeq (cTup (tcC cStr (tcC cStr (tc1 cBool)))))))))) (tcC (cSeq (cSeq (cTup (tcC (cTup (tcC cInt (tc1 cInt))) (tcC (cTup (tcC cInt (tc1 cInt))) (tcC (cTup (tcC cInt (tc1 cInt))) (tc1 (cTup (tcC cInt (tc1 cInt)))))))))) (tc1 (cTup (tcC cStr (tc1 cInt))))))) (fun x => m_law_region_right x.1 x.2.1 x.2.2.1 x.2.2.2) cBool) := by
  refine fnp_of hm F (fn_top (fun _ => False) (fun _ h => h.elim) F S__law_region_right (penC (penC (penC pen1))) (fun x => [.im cInt x.1, .im (cTup (tcC cInt (tcC cInt (tcC cInt (tc1 (cSeq (cTup (tcC cStr (tcC cStr (tc1 cBool)))))))))) x.2.1, .im (cSeq (cSeq (cTup (tcC (cTup (tcC cInt (tc1 cInt))) (tcC (cTup (tcC cInt (tc1 cInt))) (tcC (cTup (tcC cInt (tc1 cInt))) (tc1 (cTup (tcC cInt (tc1 cInt)))))))))) x.2.2.1, .im (cTup (tcC cStr (tc1 cInt))) x.2.2.2, .no]) fun cdv A outer s H E hr C hB x => ?_) (fun _ _ _ _ _ _ us hl => match us, hl with | [_, _, _, _], _ => rfl)
  obtain ⟨a_door, a_head, a_placing, a_ref⟩ := x
  show GK _ C _ _ (m_law_region_right a_door a_head a_placing a_ref) _
  unfold m_law_region_right
  exact (gk_cons (gs_set (c := (cSeq (cTup (tcC (cTup (tcC cInt (tc1 cInt))) (tcC (cTup (tcC cInt (tc1 cInt))) (tcC (cTup (tcC cInt (tc1 cInt))) (tc1 (cTup (tcC cInt (tc1 cInt)))))))))) 4 (ex_call F__law_region (hr.mono (by decide)) (ea_cons (ex_var 1 (ea_cons (ex_var 2 (ea_one (ex_var 3 (⟨_, rfl, fun v1 => gk_cons (gs_ifR (et_w (ew_or (fun (c : Bool) => c) (fun _ => [.im cInt a_door, .im (cTup (tcC cInt (tcC cInt (tcC cInt (tc1 (cSeq (cTup (tcC cStr (tcC cStr (tc1 cBool)))))))))) a_head, .im (cSeq (cSeq (cTup (tcC (cTup (tcC cInt (tc1 cInt))) (tcC (cTup (tcC cInt (tc1 cInt))) (tcC (cTup (tcC cInt (tc1 cInt))) (tc1 (cTup (tcC cInt (tc1 cInt)))))))))) a_placing, .im (cTup (tcC cStr (tc1 cInt))) a_ref, .im (cSeq (cTup (tcC (cTup (tcC cInt (tc1 cInt))) (tcC (cTup (tcC cInt (tc1 cInt))) (tcC (cTup (tcC cInt (tc1 cInt))) (tc1 (cTup (tcC cInt (tc1 cInt))))))))) v1]) (et_cmp o_eq (ex_var 0 (ex_int (⟨_, true, _, rfl, rfl, wk_refl, ew_or1 (et_cmp o_eqS (ex_call F__law_sort (hr.mono (by decide)) (ea_cons (ex_tup (ea_cons (ex_var 1 (ea_cons (ex_int (ea_one (ex_u (c := (cTup tc0)) (ex_tup (ea_nil (ea_one (ex_ixT (i := 0) nthZ (ex_var 3 (⟨_, rfl, fun v2 => ex_str (fin wk_refl)⟩)))))))))))))))), fun c3 => ⟨_, _, rfl, gk_one (gs_ret (ex_call (F__law_same 6) (hr.mono (by decide)) (ea_cons (ex_u (c := (cSeq (cTup (tcC (cTup (tcC cInt (tc1 cInt))) (tcC (cTup (tcC cInt (tc1 cInt))) (tcC (cTup (tcC cInt (tc1 cInt))) (tc1 (cTup (tcC cInt (tc1 cInt)))))))))) (ex_call F_region_of (hr.mono (by decide)) (ea_cons (ex_var 1 (ea_cons (ex_var 2 (ea_one (ex_var 3 (⟨_, rfl, fun v4 => ea_one (ex_u (c := (cSeq (cTup (tcC (cTup (tcC cInt (tc1 cInt))) (tcC (cTup (tcC cInt (tc1 cInt))) (tcC (cTup (tcC cInt (tc1 cInt))) (tc1 (cTup (tcC cInt (tc1 cInt)))))))))) (ex_var 4 (⟨_, rfl, fun v5 => rfl⟩)))⟩)))))))))))), gk_one (gs_ret (ex_call (F__law_same 6) (hr.mono (by decide)) (ea_cons (ex_u (c := (cTup (tcC (cTup (tcC cInt (tc1 cInt))) (tcC (cTup (tcC cInt (tc1 cInt))) (tcC (cTup (tcC cInt (tc1 cInt))) (tc1 (cTup (tcC cInt (tc1 cInt))))))))) (ex_call F_box_of (hr.mono (by decide)) (ea_cons (ex_var 1 (ea_cons (ex_var 2 (ea_one (ex_var 3 (⟨_, rfl, fun v6 => ea_one (ex_u (c := (cTup (tcC (cTup (tcC cInt (tc1 cInt))) (tcC (cTup (tcC cInt (tc1 cInt))) (tcC (cTup (tcC cInt (tc1 cInt))) (tc1 (cTup (tcC cInt (tc1 cInt))))))))) (ex_ixS (ex_var 4 (ex_int (⟨_, rfl, fun v7 => ⟨_, rfl, fun v8 => rfl⟩⟩)))))⟩))))))))))))⟩⟩)))))))⟩)))))))) S__law_region_right.nd))
def m_law (a_script : (List Int)) : Option Bool :=
 m_law_tape a_script >>= fun v1 =>
 lt ([("body" : Str), ("body+" : Str), ("body" : Str), ("body+" : Str), ("upright" : Str), ("lying" : Str), ("area" : Str), ("area+" : Str), ("spot" : Str), ("spot+" : Str), ("land" : Str)]) fun menu_2 =>
 m_law_draw v1 (8 : Int) >>= fun v3 =>
 (cond (decide (v3.1 = (0 : Int))) (some ((6 : Int), v3.2)) (m_law_draw v3.2 (4 : Int) >>= fun v4 =>
 some (((1 : Int) + v4.1), v4.2))) >>= fun c5 =>
 rng1 c5.1 >>= fun v7 =>
 mapS (fun x8 s9 => m_law_pick s9 menu_2 >>= fun v10 =>
 some (v10.1, v10.2)) v7 c5.2 >>= fun ys11 =>
 m_law_draw ys11.2 (3 : Int) >>= fun v12 =>
 m_law_s_head v12.2 ys11.1 ((1 : Int) + v12.1) >>= fun v13 =>
 m_law_s_world v13.2 v13.1 >>= fun v14 =>
 m_law_s_placing v14.1 >>= fun v15 =>
 m_law_s_other v14.2 v14.1 >>= fun v16 =>
 m_law_s_placing v16.1 >>= fun v17 =>
 m_law_turns v16.2 (3 : Int) >>= fun v18 =>
 (forF v18.1 v18.2 (fun x20 (s19 : Tape) => (cond (decide (x20 = (0 : Int))) (m_law_changed s19 v13.1 >>= fun v22 =>
 m_law_longer_head v22.2 v22.1 >>= fun v23 =>
 m_law_longer_head v23.2 v13.1 >>= fun v24 =>
 (forF ([(some v13.1), (some v22.1), (some v13.1), v23.1, v24.1]) v24.2 (fun x26 (s25 : Tape) => (cond x26.isNone (some true) (x26 >>= fun v27 =>
 m_law_solid_right v27 >>= fun v28 =>
 some (!v28))) >>= fun c29 =>
 cond c29 (some (.rt false)) (some (.nx s25))) : Option (Fl Tape Bool)) >>= (fun o => match o with
 | .nx s25 => some (.nx s25)
 | .rt x => some (.rt x)
 | .bk _ => none
 | .ct _ => none)) (mapS (fun x30 s31 => m_law_draw s31 v13.1.2.2.1 >>= fun v32 =>
 some ((x30.1, v32.1), v32.2)) v13.1.2.2.2 s19 >>= fun ys33 =>
 mapS (fun x34 s35 => m_law_draw s35 v13.1.2.2.1 >>= fun v36 =>
 some ((x34.1, v36.1), v36.2)) ys33.1 ys33.2 >>= fun ys37 =>
 catR ys33.1 ys37.1 >>= fun v38 =>
 catR v38 (cutR ys33.1 none (some (1 : Int))) >>= fun v39 =>
 (forF v39 () (fun x41 (s40 : Unit) => m_law_region_right x20 v13.1 v15 x41 >>= fun v42 =>
 (cond (!v42) (some true) (m_law_region_right x20 v13.1 v17 x41 >>= fun v43 =>
 some (!v43))) >>= fun c44 =>
 cond c44 (some (.rt false)) (some (.nx ()))) : Option (Fl Unit Bool)) >>= (fun o => match o with
 | .nx s40 => some (.nx ys37.2)
 | .rt x => some (.rt x)
 | .bk _ => none
 | .ct _ => none)) : Option (Fl Tape Bool)) >>= (fun o => match o with
 | .nx s21 => some (.nx s21)
 | .rt x => some (.rt x)
 | .bk _ => none
 | .ct _ => none)) : Option (Fl Tape Bool)) >>= (fun o => match o with
 | .nx s19 => some true
 | .rt x => some x
 | .bk _ => none
 | .ct _ => none)
theorem S_law : FnScope ["script", "tape", "menu", "many", "head", "world", "placing", "other", "door", "changed", "each", "refs", "ref", "k", "thing"] ["script"] (defScope st_law) := ⟨rfl, rfl, rfl, by decide +kernel, rfl, by decide +kernel, by decide +kernel⟩
theorem ok_law {fa : Addr} {fd : FuncData} (T : Txt w K mg) (F : FunD K "law" "law" (defArgs st_law) (defBody st_law) (defScope st_law) [] [] fa fd) (F__law_tape : FnP P w K mg base "_law_tape" (1) ["script"] (spN K (tc1 cScr) (fun x => m_law_tape x) celT)) (F__law_draw : FnP P w K mg base "_law_draw" (1) ["tape", "many"] (spM K celT (tc1 cInt) (fun tp x => m_law_draw tp x) cInt)) (F__law_s_head : FnP P w K mg base "_law_s_head" (4) ["tape", "sorts", "moments"] (spM K celT (tcC (cLst cStr) (tc1 cInt)) (fun tp x => m_law_s_head tp x.1 x.2) (cTup (tcC cInt (tcC cInt (tcC cInt (tc1 (cSeq (cTup (tcC cStr (tcC cStr (tc1 cBool)))))))))))) (F__law_pick : ∀ {Aa : Type} (ca : Cod K Aa), FnP P w K mg base "_law_pick" (2) ["tape", "menu"] (spM K celT (tc1 (cRow ca)) (fun tp x => m_law_pick tp x) ca)) (F__law_s_world : FnP P w K mg base "_law_s_world" (4) ["tape", "head"] (spM K celT (tc1 (cTup (tcC cInt (tcC cInt (tcC cInt (tc1 (cSeq (cTup (tcC cStr (tcC cStr (tc1 cBool))))))))))) (fun tp x => m_law_s_world tp x) (cTup (tcC (cTup (tcC cInt (tcC cInt (tcC cInt (tc1 (cSeq (cTup (tcC cStr (tcC cStr (tc1 cBool)))))))))) (tcC cInt (tc1 (cLst (cLst (cTup (tcC cInt (tcC cInt (tcC cInt (tc1 cInt))))))))))))) (F__law_s_placing : FnP P w K mg base "_law_s_placing" (2) ["world"] (spP K (tc1 (cTup (tcC (cTup (tcC cInt (tcC cInt (tcC cInt (tc1 (cSeq (cTup (tcC cStr (tcC cStr (tc1 cBool)))))))))) (tcC cInt (tc1 (cLst (cLst (cTup (tcC cInt (tcC cInt (tcC cInt (tc1 cInt)))))))))))) (fun x => m_law_s_placing x) (cSeq (cSeq (cTup (tcC (cTup (tcC cInt (tc1 cInt))) (tcC (cTup (tcC cInt (tc1 cInt))) (tcC (cTup (tcC cInt (tc1 cInt))) (tc1 (cTup (tcC cInt (tc1 cInt)))))))))))) (F__law_s_other : FnP P w K mg base "_law_s_other" (5) ["tape", "world"] (spM K celT (tc1 (cTup (tcC (cTup (tcC cInt (tcC cInt (tcC cInt (tc1 (cSeq (cTup (tcC cStr (tcC cStr (tc1 cBool)))))))))) (tcC cInt (tc1 (cLst (cLst (cTup (tcC cInt (tcC cInt (tcC cInt (tc1 cInt)))))))))))) (fun tp x => m_law_s_other tp x) (cTup (tcC (cTup (tcC cInt (tcC cInt (tcC cInt (tc1 (cSeq (cTup (tcC cStr (tcC cStr (tc1 cBool)))))))))) (tcC cInt (tc1 (cLst (cLst (cTup (tcC cInt (tcC cInt (tcC cInt (tc1 cInt))))))))))))) (F__law_turns : FnP P w K mg base "_law_turns" (2) ["tape", "many"] (spMN K celT (tc1 cInt) (fun tp x => m_law_turns tp x) (lstC cInt))) (F__law_changed : FnP P w K mg base "_law_changed" (3) ["tape", "head"] (spM K celT (tc1 (cTup (tcC cInt (tcC cInt (tcC cInt (tc1 (cSeq (cTup (tcC cStr (tcC cStr (tc1 cBool))))))))))) (fun tp x => m_law_changed tp x) (cTup (tcC cInt (tcC cInt (tcC cInt (tc1 (cSeq (cTup (tcC cStr (tcC cStr (tc1 cBool)))))))))))) (F__law_longer_head : FnP P w K mg base "_law_longer_head" (8) ["tape", "head"] (spM K celT (tc1 (cTup (tcC cInt (tcC cInt (tcC cInt (tc1 (cSeq (cTup (tcC cStr (tcC cStr (tc1 cBool))))))))))) (fun tp x => m_law_longer_head tp x) (cOpt (cTup (tcC cInt (tcC cInt (tcC cInt (tc1 (cSeq (cTup (tcC cStr (tcC cStr (tc1 cBool))))))))))))) (F__law_solid_right : FnP P w K mg base "_law_solid_right" (8) ["head"] (spP K (tc1 (cTup (tcC cInt (tcC cInt (tcC cInt (tc1 (cSeq (cTup (tcC cStr (tcC cStr (tc1 cBool))))))))))) (fun x => m_law_solid_right x) cBool)) (F__law_region_right : FnP P w K mg base "_law_region_right" (8) ["door", "head", "placing", "ref"] (spP K (tcC cInt (tcC (cTup (tcC cInt (tcC cInt (tcC cInt (tc1 (cSeq (cTup (tcC cStr (tcC cStr (tc1 cBool)))))))))) (tcC (cSeq (cSeq (cTup (tcC (cTup (tcC cInt (tc1 cInt))) (tcC (cTup (tcC cInt (tc1 cInt))) (tcC (cTup (tcC cInt (tc1 cInt))) (tc1 (cTup (tcC cInt (tc1 cInt)))))))))) (tc1 (cTup (tcC cStr (tc1 cInt))))))) (fun x => m_law_region_right x.1 x.2.1 x.2.2.1 x.2.2.2) cBool)) : FnOk P w K mg base CX0 9 fa fd ["script"] (spP K (tc1 cScr) (fun x => m_law x) cBool) := by
  refine (fn_top (fun _ => False) (fun _ h => h.elim) F S_law pen1 (fun x => [.im cScr x, .no, .no, .no, .no, .no, .no, .no, .no, .no, .no, .no, .no, .no, .no]) fun cdv A outer s H E hr C hB a_script => ?_)
  show GK _ C _ _ (m_law a_script) _
  unfold m_law
  exact (gk_cons (gs_setN (c := celT) 1 (ef_call F__law_tape (hr.mono (by decide)) (ea_one (ex_var 0 (⟨_, rfl, fun v1 => gk_cons (gs_let 2 (ex_froz (ef_lst (el_cons (ex_str (el_cons (ex_str (el_cons (ex_str (el_cons (ex_str (el_cons (ex_str (el_cons (ex_str (el_cons (ex_str (el_cons (ex_str (el_cons (ex_str (el_cons (ex_str (el_cons (ex_str (el_nil (⟨_, rfl, fun menu_2 => gk_cons (gs_set 3 (ex_if (fun (z6 : Int × Tape) => z6.1) (fun (z6 : Int × Tape) => [.im cScr a_script, .ow celT z6.2, .im (cLst cStr) menu_2, .no, .no, .no, .no, .no, .no, .no, .no, .no, .no, .no, .no]) (et_cmp o_eq (ex_callO 1 F__law_draw (hr.mono (by decide)) (ea_one (ex_int (⟨_, rfl, _, rfl, fun v3 => ex_int (⟨_, _, _, rfl, ex_int (fin (s := ((6 : Int), v3.2)) wk_refl), ex_op2T o_add (ex_int (ex_callO 1 F__law_draw (hr.mono (by decide)) (ea_one (ex_int (⟨_, rfl, _, rfl, fun v4 => fin (s := (((1 : Int) + v4.1), v4.2)) wk_refl⟩))))), fun c5 => gk_cons (gs_set 4 (ex_callO 1 F__law_s_head (hr.mono (by decide)) (ea_cons (ex_froz (ef_lc rfl S_law.nd (lc_mapS (c := cInt) (d := cStr) (ws := [13]) (up := fun Γ (x : Int) => (Γ.set 13 (.im cInt x))) (blkOk_by (own := [("k", 13)]) (by kernel_rfl)) (fun C' sh H Cc cl fp => (ag_name 13 S_law.nd)) (ei_rng1 T.range_ (ex_var 3 (⟨_, rfl, fun v7 => ⟨(fun (s9 : Tape) => [.im cScr a_script, .ow celT s9, .im (cLst cStr) menu_2, .im cInt c5.1, .no, .no, .no, .no, .no, .no, .no, .no, .no, .no, .no]), _, _, _, rfl, wk_drops [13], fun _ => rfl, fun ys11 => ea_one (ex_op2T o_add (ex_int (ex_callO 1 F__law_draw (hr.mono (by decide)) (ea_one (ex_int (⟨_, rfl, _, rfl, fun v12 => ⟨_, rfl, _, rfl, fun v13 => gk_cons (gs_set 5 (ex_callO 1 F__law_s_world (hr.mono (by decide)) (ea_one (ex_var 4 (⟨_, rfl, _, rfl, fun v14 => gk_cons (gs_set (c := (cSeq (cSeq (cTup (tcC (cTup (tcC cInt (tc1 cInt))) (tcC (cTup (tcC cInt (tc1 cInt))) (tcC (cTup (tcC cInt (tc1 cInt))) (tc1 (cTup (tcC cInt (tc1 cInt))))))))))) 6 (ex_call F__law_s_placing (hr.mono (by decide)) (ea_one (ex_var 5 (⟨_, rfl, fun v15 => gk_cons (gs_set (c := (cSeq (cSeq (cTup (tcC (cTup (tcC cInt (tc1 cInt))) (tcC (cTup (tcC cInt (tc1 cInt))) (tcC (cTup (tcC cInt (tc1 cInt))) (tc1 (cTup (tcC cInt (tc1 cInt))))))))))) 7 (ex_call F__law_s_placing (hr.mono (by decide)) (ea_one (ex_callO 1 F__law_s_other (hr.mono (by decide)) (ea_one (ex_var 5 (⟨_, rfl, _, rfl, fun v16 => ⟨_, rfl, fun v17 => gk_cons (gs_forF (c := cInt) (fun (s19 : Tape) => [.im cScr a_script, .ow celT s19, .im (cLst cStr) menu_2, .im cInt c5.1, .im (cTup (tcC cInt (tcC cInt (tcC cInt (tc1 (cSeq (cTup (tcC cStr (tcC cStr (tc1 cBool)))))))))) v13.1, .im (cTup (tcC (cTup (tcC cInt (tcC cInt (tcC cInt (tc1 (cSeq (cTup (tcC cStr (tcC cStr (tc1 cBool)))))))))) (tcC cInt (tc1 (cLst (cLst (cTup (tcC cInt (tcC cInt (tcC cInt (tc1 cInt))))))))))) v14.1, .im (cSeq (cSeq (cTup (tcC (cTup (tcC cInt (tc1 cInt))) (tcC (cTup (tcC cInt (tc1 cInt))) (tcC (cTup (tcC cInt (tc1 cInt))) (tc1 (cTup (tcC cInt (tc1 cInt)))))))))) v15, .im (cSeq (cSeq (cTup (tcC (cTup (tcC cInt (tc1 cInt))) (tcC (cTup (tcC cInt (tc1 cInt))) (tcC (cTup (tcC cInt (tc1 cInt))) (tc1 (cTup (tcC cInt (tc1 cInt)))))))))) v17, .no, .no, .no, .no, .no, .no, .no]) rfl (ag_name 8 S_law.nd) (ei_lst (ex_froz (ef_callO 1 F__law_turns (hr.mono (by decide)) (ea_one (ex_int (⟨_, rfl, _, rfl, fun v18 => ⟨_, _, _, rfl, wk_refl, fun x20 s19 => gk_one (gk_joinF (fun (s21 : Tape) => [.im cScr a_script, .ow celT s21, .im (cLst cStr) menu_2, .im cInt c5.1, .im (cTup (tcC cInt (tcC cInt (tcC cInt (tc1 (cSeq (cTup (tcC cStr (tcC cStr (tc1 cBool)))))))))) v13.1, .im (cTup (tcC (cTup (tcC cInt (tcC cInt (tcC cInt (tc1 (cSeq (cTup (tcC cStr (tcC cStr (tc1 cBool)))))))))) (tcC cInt (tc1 (cLst (cLst (cTup (tcC cInt (tcC cInt (tcC cInt (tc1 cInt))))))))))) v14.1, .im (cSeq (cSeq (cTup (tcC (cTup (tcC cInt (tc1 cInt))) (tcC (cTup (tcC cInt (tc1 cInt))) (tcC (cTup (tcC cInt (tc1 cInt))) (tc1 (cTup (tcC cInt (tc1 cInt)))))))))) v15, .im (cSeq (cSeq (cTup (tcC (cTup (tcC cInt (tc1 cInt))) (tcC (cTup (tcC cInt (tc1 cInt))) (tcC (cTup (tcC cInt (tc1 cInt))) (tc1 (cTup (tcC cInt (tc1 cInt)))))))))) v17, .im cInt x20, .no, .no, .no, .no, .no, .no]) rfl (gs_if2 (et_cmp o_eq (ex_var 8 (ex_int (⟨_, _, rfl, gk_cons (gs_set 9 (ex_callO 1 F__law_changed (hr.mono (by decide)) (ea_one (ex_var 4 (⟨_, rfl, _, rfl, fun v22 => gk_one (gs_forF (c := (cOpt (cTup (tcC cInt (tcC cInt (tcC cInt (tc1 (cSeq (cTup (tcC cStr (tcC cStr (tc1 cBool)))))))))))) (fun (s25 : Tape) => [.im cScr a_script, .ow celT s25, .im (cLst cStr) menu_2, .im cInt c5.1, .im (cTup (tcC cInt (tcC cInt (tcC cInt (tc1 (cSeq (cTup (tcC cStr (tcC cStr (tc1 cBool)))))))))) v13.1, .im (cTup (tcC (cTup (tcC cInt (tcC cInt (tcC cInt (tc1 (cSeq (cTup (tcC cStr (tcC cStr (tc1 cBool)))))))))) (tcC cInt (tc1 (cLst (cLst (cTup (tcC cInt (tcC cInt (tcC cInt (tc1 cInt))))))))))) v14.1, .im (cSeq (cSeq (cTup (tcC (cTup (tcC cInt (tc1 cInt))) (tcC (cTup (tcC cInt (tc1 cInt))) (tcC (cTup (tcC cInt (tc1 cInt))) (tc1 (cTup (tcC cInt (tc1 cInt)))))))))) v15, .im (cSeq (cSeq (cTup (tcC (cTup (tcC cInt (tc1 cInt))) (tcC (cTup (tcC cInt (tc1 cInt))) (tcC (cTup (tcC cInt (tc1 cInt))) (tc1 (cTup (tcC cInt (tc1 cInt)))))))))) v17, .im cInt x20, .im (cTup (tcC cInt (tcC cInt (tcC cInt (tc1 (cSeq (cTup (tcC cStr (tcC cStr (tc1 cBool)))))))))) v22.1, .no, .no, .no, .no, .no]) rfl (ag_name 10 S_law.nd) (ei_lst (ex_froz (ef_lst (el_cons (ex_some nnT (ex_var 4 (el_cons (ex_some nnT (ex_var 9 (el_cons (ex_some nnT (ex_var 4 (el_cons (ex_callO 1 F__law_longer_head (hr.mono (by decide)) (ea_one (ex_var 9 (⟨_, rfl, _, rfl, fun v23 => el_cons (ex_callO 1 F__law_longer_head (hr.mono (by decide)) (ea_one (ex_var 4 (⟨_, rfl, _, rfl, fun v24 => el_nil (⟨_, _, _, rfl, wk_refl, fun x26 s25 => gk_one (gs_ifR (et_w (ew_or (fun (c : Bool) => c) (fun _ => [.im cScr a_script, .ow celT s25, .im (cLst cStr) menu_2, .im cInt c5.1, .im (cTup (tcC cInt (tcC cInt (tcC cInt (tc1 (cSeq (cTup (tcC cStr (tcC cStr (tc1 cBool)))))))))) v13.1, .im (cTup (tcC (cTup (tcC cInt (tcC cInt (tcC cInt (tc1 (cSeq (cTup (tcC cStr (tcC cStr (tc1 cBool)))))))))) (tcC cInt (tc1 (cLst (cLst (cTup (tcC cInt (tcC cInt (tcC cInt (tc1 cInt))))))))))) v14.1, .im (cSeq (cSeq (cTup (tcC (cTup (tcC cInt (tc1 cInt))) (tcC (cTup (tcC cInt (tc1 cInt))) (tcC (cTup (tcC cInt (tc1 cInt))) (tc1 (cTup (tcC cInt (tc1 cInt)))))))))) v15, .im (cSeq (cSeq (cTup (tcC (cTup (tcC cInt (tc1 cInt))) (tcC (cTup (tcC cInt (tc1 cInt))) (tcC (cTup (tcC cInt (tc1 cInt))) (tc1 (cTup (tcC cInt (tc1 cInt)))))))))) v17, .im cInt x20, .im (cTup (tcC cInt (tcC cInt (tcC cInt (tc1 (cSeq (cTup (tcC cStr (tcC cStr (tc1 cBool)))))))))) v22.1, .im (cOpt (cTup (tcC cInt (tcC cInt (tcC cInt (tc1 (cSeq (cTup (tcC cStr (tcC cStr (tc1 cBool))))))))))) x26, .no, .no, .no, .no]) (et_isN (ex_var 10 (⟨_, true, _, rfl, rfl, wk_refl, ew_or1 (ew_not (et_val (ex_call F__law_solid_right (hr.mono (by decide)) (ea_one (ex_get (ex_var 10 (⟨_, rfl, fun v27 => ⟨_, rfl, fun v28 => fin wk_refl⟩⟩))))))), fun c29 => ⟨_, _, rfl, gk_one (gs_ret (ex_bl (rfl))), ⟨_, rfl, wk_drops [10]⟩⟩⟩)))))), fun s25 => ⟨_, rfl, wk_drops [9]⟩, fun _ => rfl⟩)⟩))))⟩))))))))))))))))) .never)⟩)))) S_law.nd), gk_cons (gs_setLcV 11 rfl S_law.nd hB (lc_mapS (c := (cTup (tcC cStr (tcC cStr (tc1 cBool))))) (d := (cTup (tcC cStr (tc1 cInt)))) (ws := [14]) (up := fun Γ (x : (Str × Str × Bool)) => (Γ.set 14 (.im (cTup (tcC cStr (tcC cStr (tc1 cBool)))) x))) (blkOk_by (own := [("thing", 14)]) (by kernel_rfl)) (fun C' sh H Cc cl fp => (ag_name 14 S_law.nd)) (ei_seq (ex_ixT (i := 3) (nthS (nthS (nthS nthL))) (ex_var 4 (⟨(fun (s31 : Tape) => [.im cScr a_script, .ow celT s31, .im (cLst cStr) menu_2, .im cInt c5.1, .im (cTup (tcC cInt (tcC cInt (tcC cInt (tc1 (cSeq (cTup (tcC cStr (tcC cStr (tc1 cBool)))))))))) v13.1, .im (cTup (tcC (cTup (tcC cInt (tcC cInt (tcC cInt (tc1 (cSeq (cTup (tcC cStr (tcC cStr (tc1 cBool)))))))))) (tcC cInt (tc1 (cLst (cLst (cTup (tcC cInt (tcC cInt (tcC cInt (tc1 cInt))))))))))) v14.1, .im (cSeq (cSeq (cTup (tcC (cTup (tcC cInt (tc1 cInt))) (tcC (cTup (tcC cInt (tc1 cInt))) (tcC (cTup (tcC cInt (tc1 cInt))) (tc1 (cTup (tcC cInt (tc1 cInt)))))))))) v15, .im (cSeq (cSeq (cTup (tcC (cTup (tcC cInt (tc1 cInt))) (tcC (cTup (tcC cInt (tc1 cInt))) (tcC (cTup (tcC cInt (tc1 cInt))) (tc1 (cTup (tcC cInt (tc1 cInt)))))))))) v17, .im cInt x20, .no, .no, .no, .no, .no, .no]), _, _, _, rfl, wk_drops [14], fun _ => rfl, fun ys33 => ⟨(show 11 < 15 by decide), gk_cons (gs_set 11 (ex_op2 o_catL (ex_op2 o_catL (ex_var 11 (ex_froz (ef_lc rfl S_law.nd (lc_mapS (c := (cTup (tcC cStr (tc1 cInt)))) (d := (cTup (tcC cStr (tc1 cInt)))) (ws := [12]) (up := fun Γ (x : (Str × Int)) => (Γ.set 12 (.im (cTup (tcC cStr (tc1 cInt))) x))) (blkOk_by (own := [("ref", 12)]) (by kernel_rfl)) (fun C' sh H Cc cl fp => (ag_name 12 S_law.nd)) (ei_lst (ex_var 11 (⟨(fun (s35 : Tape) => [.im cScr a_script, .ow celT s35, .im (cLst cStr) menu_2, .im cInt c5.1, .im (cTup (tcC cInt (tcC cInt (tcC cInt (tc1 (cSeq (cTup (tcC cStr (tcC cStr (tc1 cBool)))))))))) v13.1, .im (cTup (tcC (cTup (tcC cInt (tcC cInt (tcC cInt (tc1 (cSeq (cTup (tcC cStr (tcC cStr (tc1 cBool)))))))))) (tcC cInt (tc1 (cLst (cLst (cTup (tcC cInt (tcC cInt (tcC cInt (tc1 cInt))))))))))) v14.1, .im (cSeq (cSeq (cTup (tcC (cTup (tcC cInt (tc1 cInt))) (tcC (cTup (tcC cInt (tc1 cInt))) (tcC (cTup (tcC cInt (tc1 cInt))) (tc1 (cTup (tcC cInt (tc1 cInt)))))))))) v15, .im (cSeq (cSeq (cTup (tcC (cTup (tcC cInt (tc1 cInt))) (tcC (cTup (tcC cInt (tc1 cInt))) (tcC (cTup (tcC cInt (tc1 cInt))) (tc1 (cTup (tcC cInt (tc1 cInt)))))))))) v17, .im cInt x20, .no, .no, .im (cLst (cTup (tcC cStr (tc1 cInt)))) ys33.1, .no, .no, .no]), _, _, _, rfl, wk_drops [12], fun _ => rfl, fun ys37 => ⟨_, rfl, fun v38 => ex_froz (ef_slL (ex_var 11 (eo_none (eo_some (ex_int (⟨_, rfl, fun v39 => gk_one (gs_forF (c := (cTup (tcC cStr (tc1 cInt)))) (fun (s40 : Unit) => [.im cScr a_script, .ow celT ys37.2, .im (cLst cStr) menu_2, .im cInt c5.1, .im (cTup (tcC cInt (tcC cInt (tcC cInt (tc1 (cSeq (cTup (tcC cStr (tcC cStr (tc1 cBool)))))))))) v13.1, .im (cTup (tcC (cTup (tcC cInt (tcC cInt (tcC cInt (tc1 (cSeq (cTup (tcC cStr (tcC cStr (tc1 cBool)))))))))) (tcC cInt (tc1 (cLst (cLst (cTup (tcC cInt (tcC cInt (tcC cInt (tc1 cInt))))))))))) v14.1, .im (cSeq (cSeq (cTup (tcC (cTup (tcC cInt (tc1 cInt))) (tcC (cTup (tcC cInt (tc1 cInt))) (tcC (cTup (tcC cInt (tc1 cInt))) (tc1 (cTup (tcC cInt (tc1 cInt)))))))))) v15, .im (cSeq (cSeq (cTup (tcC (cTup (tcC cInt (tc1 cInt))) (tcC (cTup (tcC cInt (tc1 cInt))) (tcC (cTup (tcC cInt (tc1 cInt))) (tc1 (cTup (tcC cInt (tc1 cInt)))))))))) v17, .im cInt x20, .no, .no, .im (cLst (cTup (tcC cStr (tc1 cInt)))) v39, .no, .no, .no]) rfl (ag_name 12 S_law.nd) (ei_lst (ex_var 11 (⟨_, _, _, rfl, wk_refl, fun x41 s40 => gk_one (gs_ifR (et_w (ew_or (fun (c : Bool) => c) (fun _ => [.im cScr a_script, .ow celT ys37.2, .im (cLst cStr) menu_2, .im cInt c5.1, .im (cTup (tcC cInt (tcC cInt (tcC cInt (tc1 (cSeq (cTup (tcC cStr (tcC cStr (tc1 cBool)))))))))) v13.1, .im (cTup (tcC (cTup (tcC cInt (tcC cInt (tcC cInt (tc1 (cSeq (cTup (tcC cStr (tcC cStr (tc1 cBool)))))))))) (tcC cInt (tc1 (cLst (cLst (cTup (tcC cInt (tcC cInt (tcC cInt (tc1 cInt))))))))))) v14.1, .im (cSeq (cSeq (cTup (tcC (cTup (tcC cInt (tc1 cInt))) (tcC (cTup (tcC cInt (tc1 cInt))) (tcC (cTup (tcC cInt (tc1 cInt))) (tc1 (cTup (tcC cInt (tc1 cInt)))))))))) v15, .im (cSeq (cSeq (cTup (tcC (cTup (tcC cInt (tc1 cInt))) (tcC (cTup (tcC cInt (tc1 cInt))) (tcC (cTup (tcC cInt (tc1 cInt))) (tc1 (cTup (tcC cInt (tc1 cInt)))))))))) v17, .im cInt x20, .no, .no, .im (cLst (cTup (tcC cStr (tc1 cInt)))) v39, .im (cTup (tcC cStr (tc1 cInt))) x41, .no, .no]) (ew_not (et_val (ex_call F__law_region_right (hr.mono (by decide)) (ea_cons (ex_var 8 (ea_cons (ex_var 4 (ea_cons (ex_var 6 (ea_one (ex_var 12 (⟨_, rfl, fun v42 => ⟨_, true, _, rfl, rfl, wk_refl, ew_or1 (ew_not (et_val (ex_call F__law_region_right (hr.mono (by decide)) (ea_cons (ex_var 8 (ea_cons (ex_var 4 (ea_cons (ex_var 7 (ea_one (ex_var 12 (⟨_, rfl, fun v43 => fin wk_refl⟩)))))))))))), fun c44 => ⟨_, _, rfl, gk_one (gs_ret (ex_bl (rfl))), ⟨_, rfl, wk_drops [12]⟩⟩⟩⟩))))))))))))))), fun s40 => ⟨_, rfl, wk_drops [11]⟩, fun _ => rfl⟩))) .never)⟩))))))⟩, fun C' sh H Cc cl fp x34 s35 => ex_tup (ea_cons (ex_ixT (i := 0) nthZ (ex_var 12 (ea_one (ex_callO 1 F__law_draw (hr.mono (by decide)) (ea_one (ex_ixT (i := 2) (nthS (nthS nthZ)) (ex_var 4 (⟨_, rfl, _, rfl, fun v36 => ⟨_, rfl, wk_drops [12]⟩⟩)))))))))⟩))))))))) S_law.nd)⟩, fun C' sh H Cc cl fp x30 s31 => ex_tup (ea_cons (ex_ixT (i := 0) nthZ (ex_var 14 (ea_one (ex_callO 1 F__law_draw (hr.mono (by decide)) (ea_one (ex_ixT (i := 2) (nthS (nthS nthZ)) (ex_var 4 (⟨_, rfl, _, rfl, fun v32 => ⟨_, rfl, wk_drops [14]⟩⟩)))))))))⟩))))))⟩))))) (fun s21 => ⟨_, rfl, wk_drops [8]⟩) (fun _ => rfl) (by intro _ _ h; cases h) (by intro _ _ h; cases h)), fun s19 => gk_one (gs_ret (ex_bl (rfl))), fun _ => rfl⟩⟩)))))) .never)⟩⟩)))))) S_law.nd)⟩)))) S_law.nd)⟩)))) S_law.nd)⟩⟩)))))), fun C' sh H Cc cl fp x8 s9 => ex_callO 1 (F__law_pick cStr) (hr.mono (by decide)) (ea_one (ex_rowL (ex_var 2 (⟨_, rfl, _, rfl, fun v10 => ⟨_, rfl, wk_drops [13]⟩⟩))))⟩⟩)))))))) S_law.nd)⟩)⟩)))))) S_law.nd)⟩)))))))))))))))))))))))))) S_law.nd)⟩)))) S_law.nd))
end
end K02

set_option maxHeartbeats 4000000
namespace K02
open PySem L2 Ty
section
variable {head : Hd} {placing : Plc} {name : Str} {m D : Int}
abbrev uPair : Rf × Rf → U := uTup (uRC (uTup (uRC uStr (uR1 uInt))) (uR1 (uTup (uRC uStr (uR1 uInt)))))
theorem plain_ref {k : Nat} (r : Rf) : Plain (k + 2) (uTup (uRC uStr (uR1 uInt)) r) := ⟨by show 2 ≤ 8000000; decide, fun x hx => by
  rcases List.mem_cons.mp hx with rfl | hx
  · trivial
  · rw [List.mem_singleton.mp hx]; trivial⟩
theorem pairsV_len (H : HdQ head) : (pairsV head).length ≤ 8000 := by
  unfold pairsV
  refine Nat.le_trans (flatMap_le (k := 400) _ fun x _ => prow_len H _ _) ?_
  rw [enR_len]
  have := H.few
  omega
def solV (head : Hd) : List (Str × (Str × Rf × Rf)) := (pairsV head).map fun x2 => (("not" : Str), (("laps" : Str), x2.1, x2.2))
theorem plain_sol (H : HdQ head) : Plain 6 ((uSeq (uTup (uRC uStr (uR1 (uTup (uRC uStr (uRC (uTup (uRC uStr (uR1 uInt))) (uR1 (uTup (uRC uStr (uR1 uInt))))))))))) (solV head)) := by
  refine ⟨by rw [List.length_map]; unfold solV; rw [List.length_map]; have := pairsV_len H; omega, fun x hx => ?_⟩
  obtain ⟨y, _, rfl⟩ := List.mem_map.mp hx
  refine ⟨by show 2 ≤ 8000000; decide, fun x hx => ?_⟩
  rcases List.mem_cons.mp hx with rfl | hx
  · trivial
  · rw [List.mem_singleton.mp hx]
    refine ⟨by show 3 ≤ 8000000; decide, fun x hx => ?_⟩
    rcases List.mem_cons.mp hx with rfl | hx
    · trivial
    · rcases List.mem_cons.mp hx with rfl | hx
      · exact plain_ref (k := 1) _
      · rw [List.mem_singleton.mp hx]; exact plain_ref (k := 1) _
theorem solid_ok (H : HdQ head) : m_law_solid_right head = some true := by
  have e2 : mapR (fun x3 : Rf × Rf => some (("not" : Str), (("laps" : Str), x3.1, x3.2))) (pairsV head) = some (solV head) := mapR_eq _ _
  have e1 : m_solidities head = some (solV head) := by
    unfold m_solidities
    rw [solid_pairs_eq H, obind_some, e2, obind_some]
  unfold m_law_solid_right
  rw [e1, obind_some, law_pairs_eq H, obind_some, e2, obind_some, same_ok 6 _ (plain_sol H), obind_some]
/-- the law's region is the program's -/
theorem law_region_eq (S : Scn D head placing) (hn : name ∈ head.2.2.2.map (·.1)) (h0 : 0 ≤ m) (h1 : m < head.2.2.1) : m_law_region head placing (name, m) = some (bsOf head placing name m) := by
  obtain ⟨i, hi, hx⟩ := List.getElem_of_mem hn
  have hg : (head.2.2.2.map (·.1))[i]? = some name := by rw [List.getElem?_eq_getElem hi, hx]
  have ei := idx_of S.nd hg
  have eidx : (head.2.2.2.map (·.1)).idxOf name = i := by
    unfold idxR at ei
    rw [if_pos hn] at ei
    have := Option.some.inj ei
    omega
  have hil : i < head.2.2.2.length := by simpa using hi
  have hip : i < placing.length := by rw [S.len]; exact hil
  have gt : head.2.2.2[i]? = some head.2.2.2[i] := List.getElem?_eq_getElem hil
  have gp : placing[i]? = some placing[i] := List.getElem?_eq_getElem hip
  generalize head.2.2.2[i] = t at gt
  generalize placing[i] = p at gp
  obtain ⟨s1, s2, s3, s4⟩ := S.shape i t p gt gp
  have eb : bsOf head placing name m = if t.2.2 then (match p[m.toNat]? with | some b => [b] | none => []) else p := by
    unfold bsOf
    dsimp only
    rw [eidx, gt, gp] <;> rfl
  rw [eb]
  refine Ok.eq ?_
  unfold m_law_region
  refine Ok.get (mapR_eq _ _) (Ok.get ei (Ok.get (Ty.atI_nat gt) (Ok.cond (fun h => ?_) (fun h => ?_))))
  · have h := of_decide_eq_true h
    refine Ok.get (Ty.atI_nat gp) (Ok.ret ?_)
    cases hm : t.2.2 with
    | true => exact absurd h (s1 hm).1
    | false => rfl
  · have h := of_decide_eq_false h
    refine Ok.get (Ty.atI_nat gp) (Ok.get (Ty.atI_nat gt) ?_)
    cases hm : t.2.2 with
    | true =>
      obtain ⟨_, pl⟩ := s1 hm
      obtain ⟨k, rfl⟩ := Int.eq_ofNat_of_zero_le h0
      have hk : k < p.length := by rw [pl]; omega
      have gk : p[k]? = some p[k] := List.getElem?_eq_getElem hk
      refine Ok.get (v := p[k]) (by rw [cond_true]; exact Ty.atI_nat gk) (Ok.ret ?_)
      rw [if_pos rfl, Int.toNat_natCast, gk]
    | false =>
      obtain ⟨b, rfl⟩ := List.length_eq_one_iff.mp (s2 hm h)
      exact Ok.get (v := b) rfl (Ok.ret rfl)
theorem plain_box {k : Nat} (b : FBx) : Plain (k + 3) ((uTup (uRC (uTup (uRC uInt (uR1 uInt))) (uRC (uTup (uRC uInt (uR1 uInt))) (uRC (uTup (uRC uInt (uR1 uInt))) (uR1 (uTup (uRC uInt (uR1 uInt)))))))) b) := ⟨by show 4 ≤ 8000000; decide, fun x hx => by
  rcases List.mem_cons.mp hx with rfl | hx
  · exact plain_uF (k := k) _
  rcases List.mem_cons.mp hx with rfl | hx
  · exact plain_uF (k := k) _
  rcases List.mem_cons.mp hx with rfl | hx
  · exact plain_uF (k := k) _
  rw [List.mem_singleton.mp hx]; exact plain_uF (k := k) _⟩
theorem region_ok (S : Scn D head placing) (hn : name ∈ head.2.2.2.map (·.1)) (h0 : 0 ≤ m) (h1 : m < head.2.2.1) (door : Int) : m_law_region_right door head placing (name, m) = some true := by
  refine Ok.eq ?_
  unfold m_law_region_right
  have B := bs_ok S hn h0 h1
  refine Ok.get (law_region_eq S hn h0 h1) (Ok.bind (P := fun _ => True) (Ok.cond (fun _ => Ok.ret trivial) (fun _ => ?_)) fun c3 _ => Ok.cond (fun _ => ?_) (fun _ => ?_))
  · refine Ok.bind (P := fun _ => True) ?_ fun v2 _ => Ok.ret trivial
    unfold m_law_sort
    refine Ok.get (fltR_eq (fun x1 : Thg => decide (x1.1 = name)) (·.2.1) _) ?_
    obtain ⟨t, ht, e⟩ := List.mem_map.mp hn
    have mt : t ∈ head.2.2.2.filter fun x1 : Thg => decide (x1.1 = name) := List.mem_filter.mpr ⟨ht, decide_eq_true e⟩
    show Ok (atI ((head.2.2.2.filter fun x1 : Thg => decide (x1.1 = name)).map (·.2.1)) 0 >>= fun v3 => some v3) _
    cases q : head.2.2.2.filter fun x1 : Thg => decide (x1.1 = name) with
    | nil => rw [q] at mt; nomatch mt
    | cons y ys => exact Ok.get atI_zero (Ok.ret trivial)
  · refine Ok.get B.1 (Ok.get (same_ok 6 _ ⟨by rw [List.length_map]; omega, fun x hx => ?_⟩) (Ok.ret rfl))
    obtain ⟨b, _, rfl⟩ := List.mem_map.mp hx
    exact plain_box (k := 2) b
  · obtain ⟨rest, e⟩ := b0_mem S hn h0 h1
    refine Ok.get (box_of_ok S hn h0 h1) (Ok.get (v := b0Of head placing name m) (by rw [e]; exact atI_zero) (Ok.get (same_ok 6 _ (plain_box (k := 3) _)) (Ok.ret rfl)))
/-- a head as the law changes it -/
theorem uHd_some (h : Hd) : (dSeq some) ((uTup (uRC uInt (uRC uInt (uRC uInt (uR1 (uSeq (uTup (uRC uStr (uRC uStr (uR1 uBool)))))))))) h) = some [.int h.1, .int h.2.1, .int h.2.2.1, (uSeq (uTup (uRC uStr (uRC uStr (uR1 uBool))))) h.2.2.2] := rfl
theorem dHd (a b c : Int) (ts : List Thg) : (dTup (dRC dInt (dRC dInt (dRC dInt (dR1 (dSeq (dTup (dRC dStr (dRC dStr (dR1 dBool)))))))))) (.tup [.int a, .int b, .int c, (uSeq (uTup (uRC uStr (uRC uStr (uR1 uBool))))) ts]) = some (a, b, c, ts) := by
  have e : dSeq (dTup (dRC dStr (dRC dStr (dR1 dBool)))) ((uSeq (uTup (uRC uStr (uRC uStr (uR1 uBool))))) ts) = some ts := dSeqs_ok (u := uTup (uRC uStr (uRC uStr (uR1 uBool)))) (fun x => rfl) ts
  have k : ∀ u ts', dSeq (dTup (dRC dStr (dRC dStr (dR1 dBool)))) u = some ts' → (dTup (dRC dInt (dRC dInt (dRC dInt (dR1 (dSeq (dTup (dRC dStr (dRC dStr (dR1 dBool)))))))))) (.tup [.int a, .int b, .int c, u]) = some (a, b, c, ts') := fun u ts' e => by
    show (dInt (.int a) >>= fun x => (dInt (.int b) >>= fun y => (dInt (.int c) >>= fun z => dSeq (dTup (dRC dStr (dRC dStr (dR1 dBool)))) u >>= fun w => some (z, w)) >>= fun r => some (y, r)) >>= fun r => some (x, r)) = _
    rw [e]; rfl
  exact k _ _ e
theorem ok_changed (H : HdS head) {n : Nat} {t : Tape} (g : Good n t) (hn : n < 800000000) : Ok (m_law_changed t head) fun x => (HdQ x.1 ∧ x.1.2.2.1 = head.2.2.1) ∧ Good (n + 20) x.2 := by
  unfold m_law_changed
  have few := H.few
  have mo := H.mo
  refine (ok_draw g (by omega) (by decide)).bind fun v1 ⟨_, _, g1⟩ => Ok.cond (fun _ => ?_) (fun _ => ?_)
  · refine Ok.get (uHd_some head) ((ok_shuffled g1 (by omega) (by omega)).bind fun v3 ⟨h3, g3⟩ => ?_)
    refine Ok.get (put_set (k := 3) (by show 3 < 4; decide) (by show 4 ≤ _; decide)) (Ok.get (v := (head.1, head.2.1, head.2.2.1, v3.1)) (dHd _ _ _ _) (Ok.ret ⟨⟨⟨by show 1 ≤ head.2.2.1 ∧ head.2.2.1 ≤ 20; omega, ?_, ?_⟩, rfl⟩, g3.mono (by omega)⟩))
    · exact (h3.map (·.1)).nodup_iff.mpr H.nd
    · show v3.1.length ≤ 20
      rw [h3.length_eq]; omega
  · refine (ok_draw g1 (by omega) (by show (head.2.2.2.length : Int) < _; omega)).bind fun v6 ⟨a1, a2, g6⟩ => ?_
    have a2 : v6.1 < max (head.2.2.2.length : Int) 1 := a2
    refine (ok_pick g6 (by omega) (by show 0 < 7; decide) (by show 7 < _; decide)).bind fun v7 ⟨_, g7⟩ => ?_
    refine Ok.bind (P := fun c => Good (n + 4) c.2) (Ok.cond (fun _ => (ok_draw g7 (by omega) (by decide)).bind fun v8 ⟨_, _, g8⟩ => Ok.ret g8) (fun _ => Ok.ret (g7.mono (by omega)))) fun c9 g9 => ?_
    obtain ⟨k, hk⟩ := Int.eq_ofNat_of_zero_le a1
    have kl : k < head.2.2.2.length := by omega
    have gt : head.2.2.2[k]? = some head.2.2.2[k] := List.getElem?_eq_getElem kl
    rw [hk]
    refine Ok.get (uHd_some head) (Ok.get dSeqU (Ok.get (Ty.atI_nat gt) (Ok.get (put_set (by rw [List.length_map]; exact kl) (by rw [List.length_map]; omega)) ?_)))
    refine Ok.get (put_set (k := 3) (by show 3 < 4; decide) (by show 4 ≤ _; decide)) (Ok.get (v := (head.1, head.2.1, head.2.2.1, head.2.2.2.set k (head.2.2.2[k].1, v7.1, c9.1))) ?_ (Ok.ret ⟨⟨⟨by show 1 ≤ head.2.2.1 ∧ head.2.2.1 ≤ 20; omega, ?_, ?_⟩, rfl⟩, g9.mono (by omega)⟩))
    · rw [← List.map_set]
      have e : (uSeq id) ((head.2.2.2.set k (head.2.2.2[k].1, v7.1, c9.1)).map (uTup (uRC uStr (uRC uStr (uR1 uBool))))) = (uSeq (uTup (uRC uStr (uRC uStr (uR1 uBool))))) (head.2.2.2.set k (head.2.2.2[k].1, v7.1, c9.1)) := by
        show U.tup (List.map id _) = _
        rw [List.map_id]; rfl
      have := dHd head.1 head.2.1 head.2.2.1 (head.2.2.2.set k (head.2.2.2[k].1, v7.1, c9.1))
      rw [← e] at this
      exact this
    · show ((head.2.2.2.set k _).map _).Nodup
      rw [List.map_set]
      have : (head.2.2.2.map (·.1)).set k head.2.2.2[k].1 = head.2.2.2.map (·.1) := by
        have e : head.2.2.2[k].1 = (head.2.2.2.map (·.1))[k]'(by rw [List.length_map]; exact kl) := by simp
        rw [e, List.set_getElem_self]
      show ((head.2.2.2.map (·.1)).set k head.2.2.2[k].1).Nodup
      rw [this]; exact H.nd
    · show (head.2.2.2.set k _).length ≤ 20
      rw [List.length_set]; omega
theorem okk_longer {h : Hd} (H : HdQ h) (hm : h.2.2.1 ≤ 3) {n : Nat} {t : Tape} (g : Good n t) (hn : n < 800000000) : Ok (m_law_longer_head t h) fun x => (∃ h', x.1 = some h' ∧ HdQ h') ∧ Good (n + 1) x.2 := by
  unfold m_law_longer_head
  have mo := H.mo
  refine (ok_draw g (by omega) (by omega)).bind fun v1 ⟨a1, a2, g1⟩ => Ok.lt (Ok.lt (Ok.get (v := (h.1, h.2.1, h.2.2.1 + v1.1, h.2.2.2)) rfl (Ok.get (same_ok 6 _ ?_) (Ok.ret ⟨⟨_, rfl, ⟨?_, H.nd, H.few⟩⟩, g1⟩))))
  · refine ⟨by show 4 ≤ 8000000; decide, fun x hx => ?_⟩
    rcases List.mem_cons.mp hx with rfl | hx
    · trivial
    rcases List.mem_cons.mp hx with rfl | hx
    · trivial
    rcases List.mem_cons.mp hx with rfl | hx
    · trivial
    rw [List.mem_singleton.mp hx]
    refine ⟨by rw [List.length_map]; have := H.few; show h.2.2.2.length ≤ _; omega, fun x hx => ?_⟩
    obtain ⟨t, _, rfl⟩ := List.mem_map.mp hx
    refine ⟨by show 3 ≤ 8000000; decide, fun x hx => ?_⟩
    rcases List.mem_cons.mp hx with rfl | hx
    · trivial
    rcases List.mem_cons.mp hx with rfl | hx
    · trivial
    rw [List.mem_singleton.mp hx]; trivial
  · have a2 : v1.1 < max (7 - h.2.2.1) 1 := a2
    show 1 ≤ h.2.2.1 + v1.1 ∧ h.2.2.1 + v1.1 ≤ 20
    omega
end
theorem law_ok (ns : List Int) (hn : ns.length ≤ 63) : m_law ns = some true := by
  refine Ok.eq ?_
  unfold m_law
  refine (ok_tape ns).bind fun t g => Ok.lt ?_
  refine (ok_draw g (by omega) (by decide)).bind fun v3 ⟨_, _, g3⟩ => ?_
  refine Ok.bind (P := fun c => (1 ≤ c.1 ∧ c.1 ≤ 6) ∧ Good 2 c.2) (Ok.cond (fun _ => Ok.ret ⟨⟨by show (1 : Int) ≤ 6; decide, by show (6 : Int) ≤ 6; decide⟩, g3.mono (by omega)⟩) (fun _ => (ok_draw g3 (by omega) (by decide)).bind fun v4 ⟨a1, a2, g4⟩ => Ok.ret ⟨?_, g4⟩)) fun c5 ⟨h5, g5⟩ => ?_
  · have a2 : v4.1 < max 4 1 := a2
    show 1 ≤ 1 + v4.1 ∧ 1 + v4.1 ≤ 6
    omega
  refine (ok_rng1 (P := fun r => r = rangeI 0 c5.1) (by unfold CRng; omega) rfl).bind fun v7 e7 => ?_
  subst e7
  refine (ok_mapS (P := fun s => s ∈ menuM) (fun i s => Good (2 + i) s) (rangeI 0 c5.1) 0 c5.2 g5 fun i x s _ _ hi gs => ?_).bind fun ys11 ⟨l11, m11, g11⟩ => ?_
  · rw [len_rangeI] at hi
    refine (ok_pick gs (by omega) (by show 0 < 11; decide) (by show 11 < _; decide)).bind fun v10 ⟨h10, g10⟩ => Ok.ret ⟨?_, g10⟩
    unfold menuM
    simp only [List.mem_cons, List.not_mem_nil, or_false] at h10 ⊢
    rcases h10 with h | h | h | h | h | h | h | h | h | h | h <;> simp [h]
  rw [len_rangeI] at l11 g11
  have g11 : Good 8 ys11.2 := g11.mono (by omega)
  refine (ok_draw g11 (by omega) (by decide)).bind fun v12 ⟨a1, a2, g12⟩ => ?_
  have a2 : v12.1 < max 3 1 := a2
  refine (ok_s_head g12 (by omega) m11 (by omega) (by omega)).bind fun v13 ⟨H, _, _, g13⟩ => ?_
  refine (ok_s_world H g13 (by omega)).bind fun v14 ⟨⟨e1, e2, W⟩, g14⟩ => ?_
  obtain ⟨⟨h', u', places⟩, t14⟩ := v14
  obtain ⟨head, t13⟩ := v13
  have f1 : h' = head := e1
  have f2 : u' = 192 := e2
  subst f1
  subst f2
  have W : WdQ h' places := W
  have H : HdS h' := H
  have g14 : Good (9 + 200 + 1000) t14 := g14
  refine Ok.get (s_placing_eq W.bd) ((ok_s_other H W g14 (by omega)).bind fun v16 ⟨⟨e1, e2, W2⟩, g16⟩ => ?_)
  obtain ⟨⟨h2, u2, pl2⟩, t16⟩ := v16
  have f1 : h2 = h' := e1
  have f2 : u2 = 192 := e2
  subst f1
  subst f2
  have W2 : WdQ h2 pl2 := W2
  have g16 : Good (9 + 200 + 1000 + 1010) t16 := g16
  refine Ok.get (s_placing_eq W2.bd) ((ok_turns3 g16 (by omega) (by decide) (by decide)).bind fun v18 ⟨h18, l18, g18⟩ => ?_)
  have S1 := W.scn H
  have S2 := W2.scn H
  have few := H.few
  have mo := H.mo
  have body : ∀ (i : Nat) (z : Int) (s : Tape), Good (3000 + 100 * i) s → i ≤ 10 → Ok ((cond (decide (z = (0 : Int))) (m_law_changed s h2 >>= fun v22 =>
   m_law_longer_head v22.2 v22.1 >>= fun v23 =>
   m_law_longer_head v23.2 h2 >>= fun v24 =>
   (forF ([(some h2), (some v22.1), (some h2), v23.1, v24.1]) v24.2 (fun x26 (s25 : Tape) => (cond x26.isNone (some true) (x26 >>= fun v27 =>
   m_law_solid_right v27 >>= fun v28 =>
   some (!v28))) >>= fun c29 =>
   cond c29 (some (.rt false)) (some (.nx s25))) : Option (Fl Tape Bool)) >>= (fun o => match o with
   | .nx s25 => some (.nx s25)
   | .rt x => some (.rt x)
   | .bk _ => none
   | .ct _ => none)) (mapS (fun x30 s31 => m_law_draw s31 h2.2.2.1 >>= fun v32 =>
   some ((x30.1, v32.1), v32.2)) h2.2.2.2 s >>= fun ys33 =>
   mapS (fun x34 s35 => m_law_draw s35 h2.2.2.1 >>= fun v36 =>
   some ((x34.1, v36.1), v36.2)) ys33.1 ys33.2 >>= fun ys37 =>
   catR ys33.1 ys37.1 >>= fun v38 =>
   catR v38 (cutR ys33.1 none (some (1 : Int))) >>= fun v39 =>
   (forF v39 () (fun x41 (s40 : Unit) => m_law_region_right z h2 (plcOf places) x41 >>= fun v42 =>
   (cond (!v42) (some true) (m_law_region_right z h2 (plcOf pl2) x41 >>= fun v43 =>
   some (!v43))) >>= fun c44 =>
   cond c44 (some (.rt false)) (some (.nx ()))) : Option (Fl Unit Bool)) >>= (fun o => match o with
   | .nx s40 => some (.nx ys37.2)
   | .rt x => some (.rt x)
   | .bk _ => none
   | .ct _ => none))) : Option (Fl Tape Bool)) fun o => ∃ s', o = .nx s' ∧ Good (3000 + 100 * (i + 1)) s' := fun i z s gs hi => by
    refine Ok.cond (fun _ => ?_) (fun _ => ?_)
    · refine (ok_changed H gs (by omega)).bind fun v22 ⟨⟨Q22, e22⟩, g22⟩ => ?_
      refine (okk_longer Q22 (by rw [e22]; exact mo.2) g22 (by omega)).bind fun v23 ⟨⟨h23, e23, Q23⟩, g23⟩ => ?_
      refine (okk_longer H.q mo.2 g23 (by omega)).bind fun v24 ⟨⟨h24, e24, Q24⟩, g24⟩ => ?_
      refine Ok.bind (ok_forF (fun s => Good (3000 + 100 * (i + 1)) s) _ v24.2 (g24.mono (by omega)) fun x s' hx gs' => ?_) fun o ⟨s', e, h⟩ => by subst e; exact Ok.ret ⟨_, rfl, h⟩
      have hx : ∃ h', x = some h' ∧ HdQ h' := by
        simp only [List.mem_cons, List.not_mem_nil, or_false] at hx
        rcases hx with rfl | rfl | rfl | rfl | rfl
        · exact ⟨_, rfl, H.q⟩
        · exact ⟨_, rfl, Q22⟩
        · exact ⟨_, rfl, H.q⟩
        · exact ⟨_, e23, Q23⟩
        · exact ⟨_, e24, Q24⟩
      obtain ⟨h', rfl, Q⟩ := hx
      exact Ok.get (v := false) (Ok.eq (Ok.get (v := h') rfl (Ok.get (solid_ok Q) (Ok.ret rfl)))) (Ok.ret ⟨_, rfl, gs'⟩)
    · have dr : ∀ {α : Type} (nm : α → Str) (xs : List α) (n : Nat) (s : Tape), Good n s → n < 800000000 → xs.length ≤ 6 → (∀ x ∈ xs, nm x ∈ h2.2.2.2.map (·.1)) → Ok (mapS (fun x30 s31 => m_law_draw s31 h2.2.2.1 >>= fun v32 => some ((nm x30, v32.1), v32.2)) xs s) fun r => r.1.length = xs.length ∧ (∀ y ∈ r.1, y.1 ∈ h2.2.2.2.map (·.1) ∧ 0 ≤ y.2 ∧ y.2 < h2.2.2.1) ∧ Good (n + 6) r.2 := fun {α} nm xs n s gs hn hl hx => by
        refine (ok_mapS (P := fun y : Str × Int => y.1 ∈ h2.2.2.2.map (·.1) ∧ 0 ≤ y.2 ∧ y.2 < h2.2.2.1) (fun i s => Good (n + i) s) xs 0 s gs fun i x s hxm _ hi gs => ?_).imp fun r ⟨q1, q2, q3⟩ => ⟨q1, q2, q3.mono (by omega)⟩
        refine (ok_draw gs (by omega) (by omega)).bind fun v ⟨a, b, gv⟩ => Ok.ret ⟨⟨hx x hxm, a, ?_⟩, gv⟩
        show v.1 < h2.2.2.1
        omega
      refine (dr (·.1) h2.2.2.2 _ s gs (by omega) few.2 fun x hx => List.mem_map.mpr ⟨x, hx, rfl⟩).bind fun ys33 ⟨l33, h33, g33⟩ => ?_
      refine (dr (·.1) ys33.1 _ ys33.2 g33 (by omega) (by omega) fun x hx => (h33 x hx).1).bind fun ys37 ⟨l37, h37, g37⟩ => ?_
      refine Ok.bind (ok_cat (P := fun z => z = ys33.1 ++ ys37.1) (by omega) rfl) fun v38 e38 => ?_
      subst e38
      have cl : (cutR ys33.1 none (some (1 : Int))).length ≤ ys33.1.length := (List.Sublist.trans (List.take_sublist _ _) (List.drop_sublist _ _)).length_le
      refine Ok.bind (ok_cat (P := fun z => z = ys33.1 ++ ys37.1 ++ cutR ys33.1 none (some (1 : Int))) (by rw [List.length_append]; omega) rfl) fun v39 e39 => ?_
      subst e39
      refine Ok.bind (ok_forF (fun _ : Unit => True) _ () trivial fun x s' hx _ => ?_) fun o ⟨s', e, h⟩ => by subst e; exact Ok.ret ⟨_, rfl, g37.mono (by omega)⟩
      have hx : x.1 ∈ h2.2.2.2.map (·.1) ∧ 0 ≤ x.2 ∧ x.2 < h2.2.2.1 := by
        rcases List.mem_append.mp hx with h | h
        · rcases List.mem_append.mp h with h | h
          · exact h33 x h
          · exact h37 x h
        · exact h33 x (mem_cutR h)
      obtain ⟨x1, x2⟩ := x
      exact Ok.get (region_ok S1 hx.1 hx.2.1 hx.2.2 z) (Ok.get (v := false) (Ok.eq (Ok.get (region_ok S2 hx.1 hx.2.1 hx.2.2 z) (Ok.ret rfl))) (Ok.ret ⟨(), rfl, trivial⟩))
  refine Ok.bind (ok_forFI (fun i s => Good (3000 + 100 * i) s) v18.1 0 v18.2 (g18.mono (by decide)) fun j z s hz gs => ?_) fun o ⟨s', e, _⟩ => by subst e; exact Ok.ret rfl
  have jl : j < v18.1.length := (List.getElem?_eq_some_iff.mp hz).1
  have l18 : v18.1.length ≤ 3 := l18
  rw [Nat.zero_add] at gs ⊢
  exact (body j z s gs (by omega)).bind fun o ⟨s', e, h⟩ => by subst e; exact Ok.ret ⟨_, rfl, h⟩
end K02

set_option maxHeartbeats 0
namespace K02
open PySem PySem.Spec PyProof.Rows L2 Ty
theorem facts {P : Program} {w : World} {K : Frag} {h : Heap} {mg : Str → Option Value} {f : Addr} (X : K.In h) (G : h.Ns mainGlobals mg) (hfa : mg ("law" : Str) = some (.ref f)) (c : He.SaysX fa fn ts [] ex w h K) :
    ∃ fd : FuncData, (∀ (s : Shared) (v : Value), BindsTo s fd ⟨[v], []⟩ [("script", v)]) ∧ ∀ base : Heap, K.In base → base.Ns mainGlobals mg → FnOk P w K mg base CX0 9 f fd ["script"] (spP K (tc1 cScr) (fun x => m_law x) cBool) := by
  obtain ⟨fd_longer, D_longer⟩ := c.t.d.def_ 0 (d := d_longer) rfl
  obtain ⟨fd_names_of, D_names_of⟩ := c.t.d.def_ 1 (d := d_names_of) rfl
  obtain ⟨fd_number_of, D_number_of⟩ := c.t.d.def_ 2 (d := d_number_of) rfl
  obtain ⟨fd_is_bar, D_is_bar⟩ := c.t.d.def_ 3 (d := d_is_bar) rfl
  obtain ⟨fd_region_of, D_region_of⟩ := c.t.d.def_ 4 (d := d_region_of) rfl
  obtain ⟨fd_box_of, D_box_of⟩ := c.t.d.def_ 5 (d := d_box_of) rfl
  obtain ⟨fd_count_of_moments, D_count_of_moments⟩ := c.t.d.def_ 6 (d := d_count_of_moments) rfl
  obtain ⟨fd_hindered_by, D_hindered_by⟩ := c.t.d.def_ 7 (d := d_hindered_by) rfl
  obtain ⟨fd_solid_pairs, D_solid_pairs⟩ := c.t.d.def_ 8 (d := d_solid_pairs) rfl
  obtain ⟨fd_solidities, D_solidities⟩ := c.t.d.def_ 9 (d := d_solidities) rfl
  obtain ⟨fd__law_tape, D__law_tape⟩ := c.t.d.def_ 10 (d := d__law_tape) rfl
  obtain ⟨fd__law_draw, D__law_draw⟩ := c.t.d.def_ 11 (d := d__law_draw) rfl
  obtain ⟨fd__law_pick, D__law_pick⟩ := c.t.d.def_ 12 (d := d__law_pick) rfl
  obtain ⟨fd__law_turns, D__law_turns⟩ := c.t.d.def_ 13 (d := d__law_turns) rfl
  obtain ⟨fd__law_shuffled, D__law_shuffled⟩ := c.t.d.def_ 14 (d := d__law_shuffled) rfl
  obtain ⟨fd__law_put, D__law_put⟩ := c.t.d.def_ 15 (d := d__law_put) rfl
  obtain ⟨fd__law_same, D__law_same⟩ := c.t.d.def_ 16 (d := d__law_same) rfl
  obtain ⟨fd__law_names, D__law_names⟩ := c.t.d.def_ 17 (d := d__law_names) rfl
  obtain ⟨fd__law_low, D__law_low⟩ := c.t.d.def_ 18 (d := d__law_low) rfl
  obtain ⟨fd__law_place, D__law_place⟩ := c.t.d.def_ 19 (d := d__law_place) rfl
  obtain ⟨fd__law_sort, D__law_sort⟩ := c.t.d.def_ 20 (d := d__law_sort) rfl
  obtain ⟨fd__law_point, D__law_point⟩ := c.t.d.def_ 21 (d := d__law_point) rfl
  obtain ⟨fd__law_covered, D__law_covered⟩ := c.t.d.def_ 22 (d := d__law_covered) rfl
  obtain ⟨fd__law_inner, D__law_inner⟩ := c.t.d.def_ 23 (d := d__law_inner) rfl
  obtain ⟨fd__law_cuts, D__law_cuts⟩ := c.t.d.def_ 24 (d := d__law_cuts) rfl
  obtain ⟨fd__law_few, D__law_few⟩ := c.t.d.def_ 25 (d := d__law_few) rfl
  obtain ⟨fd__law_lap, D__law_lap⟩ := c.t.d.def_ 26 (d := d__law_lap) rfl
  obtain ⟨fd__law_pairs, D__law_pairs⟩ := c.t.d.def_ 27 (d := d__law_pairs) rfl
  obtain ⟨fd__law_s_head, D__law_s_head⟩ := c.t.d.def_ 28 (d := d__law_s_head) rfl
  obtain ⟨fd__law_s_firm, D__law_s_firm⟩ := c.t.d.def_ 29 (d := d__law_s_firm) rfl
  obtain ⟨fd__law_s_stretch, D__law_s_stretch⟩ := c.t.d.def_ 30 (d := d__law_s_stretch) rfl
  obtain ⟨fd__law_s_loose, D__law_s_loose⟩ := c.t.d.def_ 31 (d := d__law_s_loose) rfl
  obtain ⟨fd__law_s_world, D__law_s_world⟩ := c.t.d.def_ 32 (d := d__law_s_world) rfl
  obtain ⟨fd__law_s_placing, D__law_s_placing⟩ := c.t.d.def_ 33 (d := d__law_s_placing) rfl
  obtain ⟨fd__law_s_other, D__law_s_other⟩ := c.t.d.def_ 34 (d := d__law_s_other) rfl
  obtain ⟨fd__law_region, D__law_region⟩ := c.t.d.def_ 35 (d := d__law_region) rfl
  obtain ⟨fd__law_solid_right, D__law_solid_right⟩ := c.t.d.def_ 36 (d := d__law_solid_right) rfl
  obtain ⟨fd__law_changed, D__law_changed⟩ := c.t.d.def_ 37 (d := d__law_changed) rfl
  obtain ⟨fd__law_longer_head, D__law_longer_head⟩ := c.t.d.def_ 38 (d := d__law_longer_head) rfl
  obtain ⟨fd__law_region_right, D__law_region_right⟩ := c.t.d.def_ 39 (d := d__law_region_right) rfl
  obtain ⟨fd_law, D_law⟩ := c.t.d.def_ 40 (d := d_law) rfl
  have g_longer := He.glo_ok X G (c.t.d.fact 0 (f := .glo "longer") rfl)
  have g_names_of := He.glo_ok X G (c.t.d.fact 1 (f := .glo "names_of") rfl)
  have g_number_of := He.glo_ok X G (c.t.d.fact 2 (f := .glo "number_of") rfl)
  have g_is_bar := He.glo_ok X G (c.t.d.fact 3 (f := .glo "is_bar") rfl)
  have g_region_of := He.glo_ok X G (c.t.d.fact 4 (f := .glo "region_of") rfl)
  have g_box_of := He.glo_ok X G (c.t.d.fact 5 (f := .glo "box_of") rfl)
  have g_count_of_moments := He.glo_ok X G (c.t.d.fact 6 (f := .glo "count_of_moments") rfl)
  have g_hindered_by := He.glo_ok X G (c.t.d.fact 7 (f := .glo "hindered_by") rfl)
  have g_solid_pairs := He.glo_ok X G (c.t.d.fact 8 (f := .glo "solid_pairs") rfl)
  have g_solidities := He.glo_ok X G (c.t.d.fact 9 (f := .glo "solidities") rfl)
  have g__law_tape := He.glo_ok X G (c.t.d.fact 10 (f := .glo "_law_tape") rfl)
  have g__law_draw := He.glo_ok X G (c.t.d.fact 11 (f := .glo "_law_draw") rfl)
  have g__law_pick := He.glo_ok X G (c.t.d.fact 12 (f := .glo "_law_pick") rfl)
  have g__law_turns := He.glo_ok X G (c.t.d.fact 13 (f := .glo "_law_turns") rfl)
  have g__law_shuffled := He.glo_ok X G (c.t.d.fact 14 (f := .glo "_law_shuffled") rfl)
  have g__law_put := He.glo_ok X G (c.t.d.fact 15 (f := .glo "_law_put") rfl)
  have g__law_same := He.glo_ok X G (c.t.d.fact 16 (f := .glo "_law_same") rfl)
  have g__law_names := He.glo_ok X G (c.t.d.fact 17 (f := .glo "_law_names") rfl)
  have g__law_low := He.glo_ok X G (c.t.d.fact 18 (f := .glo "_law_low") rfl)
  have g__law_place := He.glo_ok X G (c.t.d.fact 19 (f := .glo "_law_place") rfl)
  have g__law_sort := He.glo_ok X G (c.t.d.fact 20 (f := .glo "_law_sort") rfl)
  have g__law_point := He.glo_ok X G (c.t.d.fact 21 (f := .glo "_law_point") rfl)
  have g__law_covered := He.glo_ok X G (c.t.d.fact 22 (f := .glo "_law_covered") rfl)
  have g__law_inner := He.glo_ok X G (c.t.d.fact 23 (f := .glo "_law_inner") rfl)
  have g__law_cuts := He.glo_ok X G (c.t.d.fact 24 (f := .glo "_law_cuts") rfl)
  have g__law_few := He.glo_ok X G (c.t.d.fact 25 (f := .glo "_law_few") rfl)
  have g__law_lap := He.glo_ok X G (c.t.d.fact 26 (f := .glo "_law_lap") rfl)
  have g__law_pairs := He.glo_ok X G (c.t.d.fact 27 (f := .glo "_law_pairs") rfl)
  have g__law_s_head := He.glo_ok X G (c.t.d.fact 28 (f := .glo "_law_s_head") rfl)
  have g__law_s_firm := He.glo_ok X G (c.t.d.fact 29 (f := .glo "_law_s_firm") rfl)
  have g__law_s_stretch := He.glo_ok X G (c.t.d.fact 30 (f := .glo "_law_s_stretch") rfl)
  have g__law_s_loose := He.glo_ok X G (c.t.d.fact 31 (f := .glo "_law_s_loose") rfl)
  have g__law_s_world := He.glo_ok X G (c.t.d.fact 32 (f := .glo "_law_s_world") rfl)
  have g__law_s_placing := He.glo_ok X G (c.t.d.fact 33 (f := .glo "_law_s_placing") rfl)
  have g__law_s_other := He.glo_ok X G (c.t.d.fact 34 (f := .glo "_law_s_other") rfl)
  have g__law_region := He.glo_ok X G (c.t.d.fact 35 (f := .glo "_law_region") rfl)
  have g__law_solid_right := He.glo_ok X G (c.t.d.fact 36 (f := .glo "_law_solid_right") rfl)
  have g__law_changed := He.glo_ok X G (c.t.d.fact 37 (f := .glo "_law_changed") rfl)
  have g__law_longer_head := He.glo_ok X G (c.t.d.fact 38 (f := .glo "_law_longer_head") rfl)
  have g__law_region_right := He.glo_ok X G (c.t.d.fact 39 (f := .glo "_law_region_right") rfl)
  have e := hfa.symm.trans (He.glo_ok X G (c.t.d.fact 40 (f := .glo "law") rfl))
  cases e
  have m := c.more
  simp only [ex, Bool.and_eq_true] at m
  obtain ⟨x0, x1⟩ := m
  have T : Txt w K mg := ⟨He.free_ok X G (c.t.d.fact 41 (f := .free "abs") rfl), He.free_ok X G (c.t.d.fact 42 (f := .free "bool") rfl), He.free_ok X G (c.t.d.fact 43 (f := .free "enumerate") rfl), He.free_ok X G (c.t.d.fact 44 (f := .free "int") rfl), He.free_ok X G (c.t.d.fact 45 (f := .free "isinstance") rfl), He.free_ok X G (c.t.d.fact 46 (f := .free "len") rfl), He.free_ok X G (c.t.d.fact 47 (f := .free "list") rfl), He.free_ok X G (c.t.d.fact 48 (f := .free "max") rfl), He.free_ok X G (c.t.d.fact 49 (f := .free "min") rfl), He.free_ok X G (c.t.d.fact 50 (f := .free "range") rfl), He.free_ok X G (c.t.d.fact 51 (f := .free "set") rfl), He.free_ok X G (c.t.d.fact 52 (f := .free "sorted") rfl), He.free_ok X G (c.t.d.fact 53 (f := .free "str") rfl), He.free_ok X G (c.t.d.fact 54 (f := .free "tuple") rfl), tupO_ok X G (c.t.d.fact 55 (f := .glo "BAR_SORTS") rfl) (fun W => He.tupB_ok x0 W) x1⟩
  refine ⟨fd_law, fun s v => FunD.bindsA (ps := ["script"]) D_law (fun _ _ _ _ _ _ us hl => match us, hl with | [_], _ => rfl) s [v] rfl, fun base _ _ => ?_⟩
  have F_longer : FnP P w K mg base "longer" (1) ["head", "moments"] (spP K (tcC (cTup (tcC cInt (tcC cInt (tcC cInt (tc1 (cSeq (cTup (tcC cStr (tcC cStr (tc1 cBool)))))))))) (tc1 cInt)) (fun x => m_longer x.1 x.2) (cTup (tcC cInt (tcC cInt (tcC cInt (tc1 (cSeq (cTup (tcC cStr (tcC cStr (tc1 cBool))))))))))) := ok_longer T D_longer g_longer
  have F_names_of : FnP P w K mg base "names_of" (1) ["head"] (spP K (tc1 (cTup (tcC cInt (tcC cInt (tcC cInt (tc1 (cSeq (cTup (tcC cStr (tcC cStr (tc1 cBool))))))))))) (fun x => m_names_of x) (cLst cStr)) := ok_names_of T D_names_of g_names_of
  have F_number_of : FnP P w K mg base "number_of" (2) ["head", "name"] (spP K (tcC (cTup (tcC cInt (tcC cInt (tcC cInt (tc1 (cSeq (cTup (tcC cStr (tcC cStr (tc1 cBool)))))))))) (tc1 cStr)) (fun x => m_number_of x.1 x.2) cInt) := ok_number_of T D_number_of g_number_of F_names_of
  have F_is_bar : FnP P w K mg base "is_bar" (1) ["sort"] (spP K (tc1 cStr) (fun x => m_is_bar x) cBool) := ok_is_bar T D_is_bar g_is_bar
  have F_region_of : FnP P w K mg base "region_of" (3) ["head", "placing", "ref"] (spP K (tcC (cTup (tcC cInt (tcC cInt (tcC cInt (tc1 (cSeq (cTup (tcC cStr (tcC cStr (tc1 cBool)))))))))) (tcC (cSeq (cSeq (cTup (tcC (cTup (tcC cInt (tc1 cInt))) (tcC (cTup (tcC cInt (tc1 cInt))) (tcC (cTup (tcC cInt (tc1 cInt))) (tc1 (cTup (tcC cInt (tc1 cInt)))))))))) (tc1 (cTup (tcC cStr (tc1 cInt)))))) (fun x => m_region_of x.1 x.2.1 x.2.2) (cSeq (cTup (tcC (cTup (tcC cInt (tc1 cInt))) (tcC (cTup (tcC cInt (tc1 cInt))) (tcC (cTup (tcC cInt (tc1 cInt))) (tc1 (cTup (tcC cInt (tc1 cInt)))))))))) := ok_region_of T D_region_of g_region_of F_number_of
  have F_box_of : FnP P w K mg base "box_of" (4) ["head", "placing", "ref"] (spP K (tcC (cTup (tcC cInt (tcC cInt (tcC cInt (tc1 (cSeq (cTup (tcC cStr (tcC cStr (tc1 cBool)))))))))) (tcC (cSeq (cSeq (cTup (tcC (cTup (tcC cInt (tc1 cInt))) (tcC (cTup (tcC cInt (tc1 cInt))) (tcC (cTup (tcC cInt (tc1 cInt))) (tc1 (cTup (tcC cInt (tc1 cInt)))))))))) (tc1 (cTup (tcC cStr (tc1 cInt)))))) (fun x => m_box_of x.1 x.2.1 x.2.2) (cTup (tcC (cTup (tcC cInt (tc1 cInt))) (tcC (cTup (tcC cInt (tc1 cInt))) (tcC (cTup (tcC cInt (tc1 cInt))) (tc1 (cTup (tcC cInt (tc1 cInt))))))))) := ok_box_of T D_box_of g_box_of F_region_of
  have F_count_of_moments : FnP P w K mg base "count_of_moments" (1) ["head", "thing", "other"] (spP K (tcC (cTup (tcC cInt (tcC cInt (tcC cInt (tc1 (cSeq (cTup (tcC cStr (tcC cStr (tc1 cBool)))))))))) (tcC (cTup (tcC cStr (tcC cStr (tc1 cBool)))) (tc1 (cTup (tcC cStr (tcC cStr (tc1 cBool))))))) (fun x => m_count_of_moments x.1 x.2.1 x.2.2) cInt) := ok_count_of_moments T D_count_of_moments g_count_of_moments
  have F_hindered_by : FnP P w K mg base "hindered_by" (2) ["head", "body"] (spP K (tcC (cTup (tcC cInt (tcC cInt (tcC cInt (tc1 (cSeq (cTup (tcC cStr (tcC cStr (tc1 cBool)))))))))) (tc1 cInt)) (fun x => m_hindered_by x.1 x.2) (cLst (cTup (tcC cStr (tcC cStr (tc1 cBool)))))) := ok_hindered_by T D_hindered_by g_hindered_by F_is_bar
  have F_solid_pairs : FnP P w K mg base "solid_pairs" (3) ["head"] (spP K (tc1 (cTup (tcC cInt (tcC cInt (tcC cInt (tc1 (cSeq (cTup (tcC cStr (tcC cStr (tc1 cBool))))))))))) (fun x => m_solid_pairs x) (cLst (cTup (tcC (cTup (tcC cStr (tc1 cInt))) (tc1 (cTup (tcC cStr (tc1 cInt)))))))) := ok_solid_pairs T D_solid_pairs g_solid_pairs F_hindered_by F_count_of_moments
  have F_solidities : FnP P w K mg base "solidities" (4) ["head"] (spP K (tc1 (cTup (tcC cInt (tcC cInt (tcC cInt (tc1 (cSeq (cTup (tcC cStr (tcC cStr (tc1 cBool))))))))))) (fun x => m_solidities x) (cSeq (cTup (tcC cStr (tc1 (cTup (tcC cStr (tcC (cTup (tcC cStr (tc1 cInt))) (tc1 (cTup (tcC cStr (tc1 cInt)))))))))))) := ok_solidities T D_solidities g_solidities F_solid_pairs
  have F__law_tape : FnP P w K mg base "_law_tape" (1) ["script"] (spN K (tc1 cScr) (fun x => m_law_tape x) celT) := ok__law_tape T D__law_tape g__law_tape
  have F__law_draw : FnP P w K mg base "_law_draw" (1) ["tape", "many"] (spM K celT (tc1 cInt) (fun tp x => m_law_draw tp x) cInt) := ok__law_draw T D__law_draw g__law_draw
  have F__law_pick : ∀ {Aa : Type} (ca : Cod K Aa), FnP P w K mg base "_law_pick" (2) ["tape", "menu"] (spM K celT (tc1 (cRow ca)) (fun tp x => m_law_pick tp x) ca) := fun {_} ca => ok__law_pick ca T D__law_pick g__law_pick F__law_draw
  have F__law_turns : FnP P w K mg base "_law_turns" (2) ["tape", "many"] (spMN K celT (tc1 cInt) (fun tp x => m_law_turns tp x) (lstC cInt)) := ok__law_turns T D__law_turns g__law_turns F__law_draw
  have F__law_shuffled : ∀ {Aa : Type} (ca : Cod K Aa), FnP P w K mg base "_law_shuffled" (2) ["tape", "menu"] (spMN K celT (tc1 (cRow ca)) (fun tp x => m_law_shuffled tp x) (lstC ca)) := fun {_} ca => ok__law_shuffled ca T D__law_shuffled g__law_shuffled F__law_draw
  have F__law_put : FnP P w K mg base "_law_put" (1) ["told", "place", "thing"] (spP K (tcC (cSeq cU) (tcC cInt (tc1 cU))) (fun x => m_law_put x.1 x.2.1 x.2.2) (cSeq cU)) := ok__law_put T D__law_put g__law_put
  have F__law_same : ∀ fuel : Nat, FnP P w K mg base "_law_same" (1 + fuel) ["told", "wanted"] (spP K (tcC cU (tc1 cU)) (fun x => m_law_same fuel x.1 x.2) cBool) := ok__law_same T D__law_same g__law_same
  have F__law_names : FnP P w K mg base "_law_names" (3) ["tape", "many"] (spMN K celT (tc1 cInt) (fun tp x => m_law_names tp x) (lstC cStr)) := ok__law_names T D__law_names g__law_names F__law_pick F__law_draw
  have U__law_names : FnPU P w K mg base "_law_names" (3) ["tape", "many"] (spMN K celT (tc1 cInt) (fun tp x => m_law_names tp x) (lstC cStr)) := oku__law_names T D__law_names g__law_names F__law_pick F__law_draw
  have F__law_low : FnP P w K mg base "_law_low" (1) ["n", "d"] (spP K (tcC cInt (tc1 cInt)) (fun x => m_law_low x.1 x.2) (cTup (tcC cInt (tc1 cInt)))) := ok__law_low T D__law_low g__law_low
  have F__law_place : FnP P w K mg base "_law_place" (1) ["world", "ref"] (spP K (tcC (cTup (tcC (cTup (tcC cInt (tcC cInt (tcC cInt (tc1 (cSeq (cTup (tcC cStr (tcC cStr (tc1 cBool)))))))))) (tcC cInt (tc1 (cLst (cLst (cTup (tcC cInt (tcC cInt (tcC cInt (tc1 cInt))))))))))) (tc1 (cTup (tcC cStr (tc1 cInt))))) (fun x => m_law_place x.1 x.2) (cLst (cTup (tcC cInt (tcC cInt (tcC cInt (tc1 cInt))))))) := ok__law_place T D__law_place g__law_place
  have F__law_sort : FnP P w K mg base "_law_sort" (1) ["world", "name"] (spP K (tcC (cTup (tcC (cTup (tcC cInt (tcC cInt (tcC cInt (tc1 (cSeq (cTup (tcC cStr (tcC cStr (tc1 cBool)))))))))) (tcC cInt (tc1 cU)))) (tc1 cStr)) (fun x => m_law_sort x.1 x.2) cStr) := ok__law_sort T D__law_sort g__law_sort
  have F__law_point : FnP P w K mg base "_law_point" (1) ["boxes", "x", "y"] (spP K (tcC (cLst (cTup (tcC cInt (tcC cInt (tcC cInt (tc1 cInt)))))) (tcC cInt (tc1 cInt))) (fun x => m_law_point x.1 x.2.1 x.2.2) cBool) := ok__law_point T D__law_point g__law_point
  have F__law_covered : FnP P w K mg base "_law_covered" (1) ["boxes", "x", "y"] (spP K (tcC (cLst (cTup (tcC cInt (tcC cInt (tcC cInt (tc1 cInt)))))) (tcC cInt (tc1 cInt))) (fun x => m_law_covered x.1 x.2.1 x.2.2) cBool) := ok__law_covered T D__law_covered g__law_covered
  have F__law_inner : FnP P w K mg base "_law_inner" (2) ["boxes", "x", "y"] (spP K (tcC (cLst (cTup (tcC cInt (tcC cInt (tcC cInt (tc1 cInt)))))) (tcC cInt (tc1 cInt))) (fun x => m_law_inner x.1 x.2.1 x.2.2) cBool) := ok__law_inner T D__law_inner g__law_inner F__law_covered
  have F__law_cuts : FnP P w K mg base "_law_cuts" (1) ["boxes", "low"] (spP K (tcC (cLst (cTup (tcC cInt (tcC cInt (tcC cInt (tc1 cInt)))))) (tc1 cInt)) (fun x => m_law_cuts x.1 x.2) (cLst cInt)) := ok__law_cuts T D__law_cuts g__law_cuts
  have F__law_few : FnP P w K mg base "_law_few" (2) ["boxes"] (spP K (tc1 (cLst (cTup (tcC cInt (tcC cInt (tcC cInt (tc1 cInt))))))) (fun x => m_law_few x) (cLst (cTup (tcC cInt (tc1 cInt))))) := ok__law_few T D__law_few g__law_few F__law_cuts
  have F__law_lap : FnP P w K mg base "_law_lap" (3) ["one", "two"] (spP K (tcC (cLst (cTup (tcC cInt (tcC cInt (tcC cInt (tc1 cInt)))))) (tc1 (cLst (cTup (tcC cInt (tcC cInt (tcC cInt (tc1 cInt)))))))) (fun x => m_law_lap x.1 x.2) cBool) := ok__law_lap T D__law_lap g__law_lap F__law_few F__law_point F__law_inner
  have F__law_pairs : FnP P w K mg base "_law_pairs" (1) ["head"] (spP K (tc1 (cTup (tcC cInt (tcC cInt (tcC cInt (tc1 (cSeq (cTup (tcC cStr (tcC cStr (tc1 cBool))))))))))) (fun x => m_law_pairs x) (cLst (cTup (tcC (cTup (tcC cStr (tc1 cInt))) (tc1 (cTup (tcC cStr (tc1 cInt)))))))) := ok__law_pairs T D__law_pairs g__law_pairs
  have F__law_s_head : FnP P w K mg base "_law_s_head" (4) ["tape", "sorts", "moments"] (spM K celT (tcC (cLst cStr) (tc1 cInt)) (fun tp x => m_law_s_head tp x.1 x.2) (cTup (tcC cInt (tcC cInt (tcC cInt (tc1 (cSeq (cTup (tcC cStr (tcC cStr (tc1 cBool))))))))))) := ok__law_s_head T D__law_s_head g__law_s_head F__law_names F__law_draw F__law_pick U__law_names
  have F__law_s_firm : FnP P w K mg base "_law_s_firm" (2) ["tape", "head", "thing", "step", "up", "own"] (spM K celT (tcC (cTup (tcC cInt (tcC cInt (tcC cInt (tc1 (cSeq (cTup (tcC cStr (tcC cStr (tc1 cBool)))))))))) (tcC (cTup (tcC cStr (tcC cStr (tc1 cBool)))) (tcC (cTup (tcC cInt (tc1 cInt))) (tcC cInt (tc1 (cSeq cInt)))))) (fun tp x => m_law_s_firm tp x.1 x.2.1 x.2.2.1 x.2.2.2.1 x.2.2.2.2) (cLst (cTup (tcC cInt (tcC cInt (tcC cInt (tc1 cInt))))))) := ok__law_s_firm T D__law_s_firm g__law_s_firm F__law_draw
  have F__law_s_stretch : FnP P w K mg base "_law_s_stretch" (2) ["tape", "cuts"] (spM K celT (tc1 (cLst cInt)) (fun tp x => m_law_s_stretch tp x) (cTup (tcC cInt (tc1 cInt)))) := ok__law_s_stretch T D__law_s_stretch g__law_s_stretch F__law_draw
  have F__law_s_loose : FnP P w K mg base "_law_s_loose" (3) ["tape", "head", "thing", "cuts"] (spM K celT (tcC (cTup (tcC cInt (tcC cInt (tcC cInt (tc1 (cSeq (cTup (tcC cStr (tcC cStr (tc1 cBool)))))))))) (tcC (cTup (tcC cStr (tcC cStr (tc1 cBool)))) (tc1 (cTup (tcC (cLst cInt) (tc1 (cLst cInt))))))) (fun tp x => m_law_s_loose tp x.1 x.2.1 x.2.2) (cLst (cTup (tcC cInt (tcC cInt (tcC cInt (tc1 cInt))))))) := ok__law_s_loose T D__law_s_loose g__law_s_loose F__law_draw F__law_s_stretch F__law_pick
  have F__law_s_world : FnP P w K mg base "_law_s_world" (4) ["tape", "head"] (spM K celT (tc1 (cTup (tcC cInt (tcC cInt (tcC cInt (tc1 (cSeq (cTup (tcC cStr (tcC cStr (tc1 cBool))))))))))) (fun tp x => m_law_s_world tp x) (cTup (tcC (cTup (tcC cInt (tcC cInt (tcC cInt (tc1 (cSeq (cTup (tcC cStr (tcC cStr (tc1 cBool)))))))))) (tcC cInt (tc1 (cLst (cLst (cTup (tcC cInt (tcC cInt (tcC cInt (tc1 cInt)))))))))))) := ok__law_s_world T D__law_s_world g__law_s_world F__law_pick F__law_shuffled F__law_draw F__law_s_firm F__law_s_loose
  have F__law_s_placing : FnP P w K mg base "_law_s_placing" (2) ["world"] (spP K (tc1 (cTup (tcC (cTup (tcC cInt (tcC cInt (tcC cInt (tc1 (cSeq (cTup (tcC cStr (tcC cStr (tc1 cBool)))))))))) (tcC cInt (tc1 (cLst (cLst (cTup (tcC cInt (tcC cInt (tcC cInt (tc1 cInt)))))))))))) (fun x => m_law_s_placing x) (cSeq (cSeq (cTup (tcC (cTup (tcC cInt (tc1 cInt))) (tcC (cTup (tcC cInt (tc1 cInt))) (tcC (cTup (tcC cInt (tc1 cInt))) (tc1 (cTup (tcC cInt (tc1 cInt))))))))))) := ok__law_s_placing T D__law_s_placing g__law_s_placing F__law_low
  have F__law_s_other : FnP P w K mg base "_law_s_other" (5) ["tape", "world"] (spM K celT (tc1 (cTup (tcC (cTup (tcC cInt (tcC cInt (tcC cInt (tc1 (cSeq (cTup (tcC cStr (tcC cStr (tc1 cBool)))))))))) (tcC cInt (tc1 (cLst (cLst (cTup (tcC cInt (tcC cInt (tcC cInt (tc1 cInt)))))))))))) (fun tp x => m_law_s_other tp x) (cTup (tcC (cTup (tcC cInt (tcC cInt (tcC cInt (tc1 (cSeq (cTup (tcC cStr (tcC cStr (tc1 cBool)))))))))) (tcC cInt (tc1 (cLst (cLst (cTup (tcC cInt (tcC cInt (tcC cInt (tc1 cInt)))))))))))) := ok__law_s_other T D__law_s_other g__law_s_other F__law_s_world F__law_draw F__law_pairs F__law_lap F__law_place
  have F__law_region : FnP P w K mg base "_law_region" (1) ["head", "placing", "ref"] (spP K (tcC (cTup (tcC cInt (tcC cInt (tcC cInt (tc1 (cSeq (cTup (tcC cStr (tcC cStr (tc1 cBool)))))))))) (tcC (cSeq (cSeq (cTup (tcC (cTup (tcC cInt (tc1 cInt))) (tcC (cTup (tcC cInt (tc1 cInt))) (tcC (cTup (tcC cInt (tc1 cInt))) (tc1 (cTup (tcC cInt (tc1 cInt)))))))))) (tc1 (cTup (tcC cStr (tc1 cInt)))))) (fun x => m_law_region x.1 x.2.1 x.2.2) (cSeq (cTup (tcC (cTup (tcC cInt (tc1 cInt))) (tcC (cTup (tcC cInt (tc1 cInt))) (tcC (cTup (tcC cInt (tc1 cInt))) (tc1 (cTup (tcC cInt (tc1 cInt)))))))))) := ok__law_region T D__law_region g__law_region
  have F__law_solid_right : FnP P w K mg base "_law_solid_right" (8) ["head"] (spP K (tc1 (cTup (tcC cInt (tcC cInt (tcC cInt (tc1 (cSeq (cTup (tcC cStr (tcC cStr (tc1 cBool))))))))))) (fun x => m_law_solid_right x) cBool) := ok__law_solid_right T D__law_solid_right g__law_solid_right F__law_same F_solidities F__law_pairs
  have F__law_changed : FnP P w K mg base "_law_changed" (3) ["tape", "head"] (spM K celT (tc1 (cTup (tcC cInt (tcC cInt (tcC cInt (tc1 (cSeq (cTup (tcC cStr (tcC cStr (tc1 cBool))))))))))) (fun tp x => m_law_changed tp x) (cTup (tcC cInt (tcC cInt (tcC cInt (tc1 (cSeq (cTup (tcC cStr (tcC cStr (tc1 cBool))))))))))) := ok__law_changed T D__law_changed g__law_changed F__law_draw F__law_put F__law_shuffled F__law_pick
  have F__law_longer_head : FnP P w K mg base "_law_longer_head" (8) ["tape", "head"] (spM K celT (tc1 (cTup (tcC cInt (tcC cInt (tcC cInt (tc1 (cSeq (cTup (tcC cStr (tcC cStr (tc1 cBool))))))))))) (fun tp x => m_law_longer_head tp x) (cOpt (cTup (tcC cInt (tcC cInt (tcC cInt (tc1 (cSeq (cTup (tcC cStr (tcC cStr (tc1 cBool)))))))))))) := ok__law_longer_head T D__law_longer_head g__law_longer_head F__law_draw F__law_same F_longer
  have F__law_region_right : FnP P w K mg base "_law_region_right" (8) ["door", "head", "placing", "ref"] (spP K (tcC cInt (tcC (cTup (tcC cInt (tcC cInt (tcC cInt (tc1 (cSeq (cTup (tcC cStr (tcC cStr (tc1 cBool)))))))))) (tcC (cSeq (cSeq (cTup (tcC (cTup (tcC cInt (tc1 cInt))) (tcC (cTup (tcC cInt (tc1 cInt))) (tcC (cTup (tcC cInt (tc1 cInt))) (tc1 (cTup (tcC cInt (tc1 cInt)))))))))) (tc1 (cTup (tcC cStr (tc1 cInt))))))) (fun x => m_law_region_right x.1 x.2.1 x.2.2.1 x.2.2.2) cBool) := ok__law_region_right T D__law_region_right g__law_region_right F__law_region F__law_sort F__law_same F_region_of F_box_of
  exact ok_law T D_law F__law_tape F__law_draw F__law_s_head F__law_pick F__law_s_world F__law_s_placing F__law_s_other F__law_turns F__law_changed F__law_longer_head F__law_solid_right F__law_region_right
end K02
open PySem PySem.W PySem.Calls PyProof.Rows
theorem PySem.Challenge.cw_wherehouse_k02_solidities_and_regions_of_holds : PySem.Challenge.rw_wherehouse_k02_solidities_and_regions_of.Holds := by
  w_on; o_law
  refine HandSHeadRun.head_any (r := OpenLaw.row PySem.Challenge.rw_wherehouse_k02_solidities_and_regions_of) (q := view (OpenLaw.row PySem.Challenge.rw_wherehouse_k02_solidities_and_regions_of).prog [44]) (H := K02.hk) (ob := K02.ob) (M := 2000) (loose := K02.loose) (d := HandSHeadRun.topDef (OpenLaw.row PySem.Challenge.rw_wherehouse_k02_solidities_and_regions_of).prog 44) (kwd := []) K02.ob_eq
    (by kernel_rfl) (fun s => by kernel_rfl) K02.run (by kernel_rfl) (by kernel_rfl) (by kernel_rfl) (by rfl) (by first | assumption | decide +kernel) (by decide +kernel) ⟨rfl, rfl, rfl, rfl, rfl, by decide +kernel⟩ ?hw ?hc
  case hw => w_witness2
  case hc =>
    refine L2.walk_ofE (l := PySem.Challenge.rw_wherehouse_k02_solidities_and_regions_of) (n := 63) (k := 9) (x := "script") (CX := L2.CX0) rfl (by decide) (by kernel_rfl) ⟨rfl, by decide, by decide⟩ ?F (fun _ _ _ _ z => z)
    intro w mg fa h Y G hmg0
    obtain ⟨K, KX, c⟩ := Y
    have hmg : mg ("law" : PySem.Str) = some (.ref fa) := by
      have e : (HandSHeadRun.topDef (OpenLaw.row PySem.Challenge.rw_wherehouse_k02_solidities_and_regions_of).prog 44).name = ("law" : PySem.Str) := by kernel_rfl
      rw [← e]
      exact hmg0
    obtain ⟨fd, hb, hF⟩ := K02.facts (P := (PySem.Challenge.rw_wherehouse_k02_solidities_and_regions_of).prog) (w := w) KX G hmg c
    exact ⟨K, fd, _, KX, hb, fun H a ns hl _ hS => ⟨H, ns, L2.Same.refl _, ⟨_, rfl, a, rfl, hS⟩, true, K02.law_ok ns hl, fun _ _ v _ h => h⟩, hF⟩

