import PyProof.Rows.All
import Wide.All
import OpenK.AllK
import Wide.FinOn
import KE.KStateDown
import HandS.ForMost
import HandS.Wide
import HandS.Gcd
import HandS.Conv
import HandS.HeadHook4
import HandS.Head2
import HandS.Head3
import HandS.HeadEnd
import HandS.IsInst
import HandS.Strs
import HandS.Defaults
import HandS.TupAny
import HandS.More
import HandS.HeadHook2
import PySem.Challenge.RW_wherehouse_k00_fractions_and_marks
set_option Elab.async false
set_option linter.all false
set_option maxRecDepth 100000
set_option maxHeartbeats 4000000
/-! Typed evaluation over the hand layer: what an expression, a block gives, as plain Lean values. -/
namespace Ty
open PySem PySem.Spec PyProof.Rows L2

abbrev Frag := PySem.W.Frag
theorem Same.rd {H H' : Hp} {a : Addr} {u : HO} (e : Same H H') (h : Rd H a u) : Rd H' a u := by
  rcases h with h | ⟨o, h⟩
  · exact .inl (e _ _ h)
  · exact .inr ⟨o, e _ _ h⟩
theorem Same.tup {K : Frag} {H H' : Hp} {a : Addr} {xs : List V} (e : Same H H') (h : SqT K H a xs) : SqT K H' a xs := by
  rcases h with h | h
  · exact .inl (Same.rd e h)
  · exact .inr h

/-! ### values at large -/
inductive U where
  | non | bl (b : Bool) | int (i : Int) | str (s : Str) | tup (l : List U) | lst (l : List U) | opq
mutual
def rpU (K : Frag) (H : Hp) : U → V → Prop
  | .non, v => v = .non
  | .bl b, v => v = .bl b
  | .int i, v => v = .int i
  | .str s, v => v = .str s
  | .tup l, v => ∃ a vs, v = .ref a ∧ SqT K H a vs ∧ rpUs K H l vs
  | .lst l, v => ∃ a vs, v = .ref a ∧ H a = some (.lst vs) ∧ rpUs K H l vs
  | .opq, _ => True
def rpUs (K : Frag) (H : Hp) : List U → List V → Prop
  | [], vs => vs = []
  | u :: us, vs => ∃ v r, vs = v :: r ∧ rpU K H u v ∧ rpUs K H us r
end
mutual
theorem rpU.mono {K : Frag} {H H' : Hp} (e : Same H H') : ∀ {u : U} {v : V}, rpU K H u v → rpU K H' u v
  | .non, _, h => h
  | .bl _, _, h => h
  | .int _, _, h => h
  | .str _, _, h => h
  | .tup _, _, ⟨a, vs, h1, h2, h3⟩ => ⟨a, vs, h1, Same.tup e h2, rpUs.mono e h3⟩
  | .lst _, _, ⟨a, vs, h1, h2, h3⟩ => ⟨a, vs, h1, e _ _ h2, rpUs.mono e h3⟩
  | .opq, _, _ => trivial
theorem rpUs.mono {K : Frag} {H H' : Hp} (e : Same H H') : ∀ {us : List U} {vs : List V}, rpUs K H us vs → rpUs K H' us vs
  | [], _, h => h
  | _ :: _, _, ⟨v, r, h1, h2, h3⟩ => ⟨v, r, h1, rpU.mono e h2, rpUs.mono e h3⟩
end
theorem rpUs.length {K : Frag} {H : Hp} : ∀ {us : List U} {vs : List V}, rpUs K H us vs → vs.length = us.length
  | [], _, h => by cases h; rfl
  | _ :: _, _, ⟨v, r, h1, _, h3⟩ => by subst h1; simp [rpUs.length h3]

/-! ### codecs -/
/-- how values of a Lean type stand for Python's -/
structure Cod (K : Frag) (α : Type) where
  rp : Hp → V → α → Prop
  u : α → U
  mono : ∀ {H H' : Hp} {v : V} {x : α}, Same H H' → rp H v x → rp H' v x
  ru : ∀ {H : Hp} {v : V} {x : α}, rp H v x → rpU K H (u x) v
/-- codecs of rows of values -/
structure TC (K : Frag) (α : Type) where
  n : Nat
  rp : Hp → List V → α → Prop
  u : α → List U
  mono : ∀ {H H' : Hp} {vs : List V} {x : α}, Same H H' → rp H vs x → rp H' vs x
  ru : ∀ {H : Hp} {vs : List V} {x : α}, rp H vs x → rpUs K H (u x) vs
  len : ∀ {H : Hp} {vs : List V} {x : α}, rp H vs x → vs.length = n
section
variable {K : Frag}
def cInt : Cod K Int := ⟨fun _ v x => v = .int x, .int, fun _ h => h, fun h => h⟩
def cBool : Cod K Bool := ⟨fun _ v x => v = .bl x, .bl, fun _ h => h, fun h => h⟩
def cStr : Cod K Str := ⟨fun _ v x => v = .str x, .str, fun _ h => h, fun h => h⟩
def cNon : Cod K Unit := ⟨fun _ v _ => v = .non, fun _ => .non, fun _ h => h, fun h => h⟩
def cU : Cod K U := ⟨fun H v x => rpU K H x v, id, fun e h => h.mono e, fun h => h⟩
def tc0 : TC K Unit := ⟨0, fun _ vs _ => vs = [], fun _ => [], fun _ h => h, fun h => h, fun h => by rw [h]; rfl⟩
def tc1 {α : Type} (c : Cod K α) : TC K α := ⟨1, fun H vs x => ∃ v, vs = [v] ∧ c.rp H v x, fun x => [c.u x], fun e ⟨v, h, q⟩ => ⟨v, h, c.mono e q⟩, fun ⟨v, h, q⟩ => ⟨v, [], h, c.ru q, rfl⟩, fun ⟨v, h, _⟩ => by rw [h]; rfl⟩
def tcC {α β : Type} (c : Cod K α) (t : TC K β) : TC K (α × β) :=
  ⟨t.n + 1, fun H vs x => ∃ v r, vs = v :: r ∧ c.rp H v x.1 ∧ t.rp H r x.2, fun x => c.u x.1 :: t.u x.2, fun e ⟨v, r, h, q, q2⟩ => ⟨v, r, h, c.mono e q, t.mono e q2⟩,
    fun ⟨v, r, h, q, q2⟩ => ⟨v, r, h, c.ru q, t.ru q2⟩, fun ⟨v, r, h, _, q2⟩ => by rw [h, List.length_cons, t.len q2]⟩
/-- a tuple of fixed length -/
def cTup {α : Type} (t : TC K α) : Cod K α :=
  ⟨fun H v x => ∃ a vs, v = .ref a ∧ SqT K H a vs ∧ t.rp H vs x, fun x => .tup (t.u x), fun e ⟨a, vs, h, q, q2⟩ => ⟨a, vs, h, Same.tup e q, t.mono e q2⟩, fun ⟨a, vs, h, q, q2⟩ => ⟨a, vs, h, q, t.ru q2⟩⟩
/-- rows of one codec -/
inductive Row {α : Type} (c : Cod K α) (H : Hp) : List V → List α → Prop
  | nil : Row c H [] []
  | cons {v : V} {x : α} {vs : List V} {xs : List α} : c.rp H v x → Row c H vs xs → Row c H (v :: vs) (x :: xs)
theorem Row.mono {α : Type} {c : Cod K α} {H H' : Hp} (e : Same H H') : ∀ {vs : List V} {xs : List α}, Row c H vs xs → Row c H' vs xs
  | _, _, .nil => .nil
  | _, _, .cons h t => .cons (c.mono e h) (Row.mono e t)
theorem Row.ru {α : Type} {c : Cod K α} {H : Hp} : ∀ {vs : List V} {xs : List α}, Row c H vs xs → rpUs K H (xs.map c.u) vs
  | _, _, .nil => rfl
  | _, _, .cons h t => ⟨_, _, rfl, c.ru h, Row.ru t⟩
theorem Row.length {α : Type} {c : Cod K α} {H : Hp} : ∀ {vs : List V} {xs : List α}, Row c H vs xs → vs.length = xs.length
  | _, _, .nil => rfl
  | _, _, .cons _ t => by simp [Row.length t]
theorem Row.get {α : Type} {c : Cod K α} {H : Hp} : ∀ {vs : List V} {xs : List α} {i : Nat} {x : α}, Row c H vs xs → xs[i]? = some x → ∃ v, vs[i]? = some v ∧ c.rp H v x
  | _, _, _, _, .nil, e => by simp at e
  | _, _, 0, _, .cons h _, e => by simp at e; subst e; exact ⟨_, rfl, h⟩
  | _, _, i + 1, _, .cons _ t, e => by
    obtain ⟨v, h1, h2⟩ := Row.get (i := i) t (by simpa using e)
    exact ⟨v, by simpa using h1, h2⟩
theorem Row.get' {α : Type} {c : Cod K α} {H : Hp} : ∀ {vs : List V} {xs : List α} {i : Nat} {v : V}, Row c H vs xs → vs[i]? = some v → ∃ x, xs[i]? = some x ∧ c.rp H v x
  | _, _, _, _, .nil, e => by simp at e
  | _, _, 0, _, .cons h _, e => by simp at e; subst e; exact ⟨_, rfl, h⟩
  | _, _, i + 1, _, .cons _ t, e => by
    obtain ⟨x, h1, h2⟩ := Row.get' (i := i) t (by simpa using e)
    exact ⟨x, by simpa using h1, h2⟩
theorem Row.append {α : Type} {c : Cod K α} {H : Hp} : ∀ {vs ws : List V} {xs ys : List α}, Row c H vs xs → Row c H ws ys → Row c H (vs ++ ws) (xs ++ ys)
  | _, _, _, _, .nil, q => q
  | _, _, _, _, .cons h t, q => .cons h (Row.append t q)
theorem Row.take {α : Type} {c : Cod K α} {H : Hp} : ∀ {vs : List V} {xs : List α} (n : Nat), Row c H vs xs → Row c H (vs.take n) (xs.take n)
  | _, _, 0, _ => .nil
  | _, _, _ + 1, .nil => .nil
  | _, _, n + 1, .cons h t => .cons h (Row.take n t)
theorem Row.drop {α : Type} {c : Cod K α} {H : Hp} : ∀ {vs : List V} {xs : List α} (n : Nat), Row c H vs xs → Row c H (vs.drop n) (xs.drop n)
  | _, _, 0, h => h
  | _, _, _ + 1, .nil => .nil
  | _, _, n + 1, .cons _ t => Row.drop n t
theorem Row.set {α : Type} {c : Cod K α} {H : Hp} {v : V} {x : α} (h : c.rp H v x) : ∀ {vs : List V} {xs : List α} (n : Nat), Row c H vs xs → Row c H (vs.set n v) (xs.set n x)
  | _, _, _, .nil => .nil
  | _, _, 0, .cons _ t => .cons h t
  | _, _, n + 1, .cons q t => .cons q (Row.set h n t)
theorem Row.erase {α : Type} {c : Cod K α} {H : Hp} : ∀ {vs : List V} {xs : List α} (n : Nat), Row c H vs xs → Row c H (vs.eraseIdx n) (xs.eraseIdx n)
  | _, _, _, .nil => .nil
  | _, _, 0, .cons _ t => t
  | _, _, n + 1, .cons q t => .cons q (Row.erase n t)
/-- a tuple, a list (that stands still) of any length -/
def cSeq {α : Type} (c : Cod K α) : Cod K (List α) :=
  ⟨fun H v x => ∃ a vs, v = .ref a ∧ SqT K H a vs ∧ Row c H vs x, fun x => .tup (x.map c.u), fun e ⟨a, vs, h, q, q2⟩ => ⟨a, vs, h, Same.tup e q, q2.mono e⟩, fun ⟨a, vs, h, q, q2⟩ => ⟨a, vs, h, q, q2.ru⟩⟩
def cLst {α : Type} (c : Cod K α) : Cod K (List α) :=
  ⟨fun H v x => ∃ a vs, v = .ref a ∧ H a = some (.lst vs) ∧ Row c H vs x, fun x => .lst (x.map c.u), fun e ⟨a, vs, h, q, q2⟩ => ⟨a, vs, h, e _ _ q, q2.mono e⟩, fun ⟨a, vs, h, q, q2⟩ => ⟨a, vs, h, q, q2.ru⟩⟩
/-- None, or such a value (that is never None) -/
def cOpt {α : Type} (c : Cod K α) : Cod K (Option α) :=
  ⟨fun H v x => match x with | none => v = .non | some y => v ≠ .non ∧ c.rp H v y, fun x => match x with | none => .non | some y => c.u y,
    fun {H H' v x} e h => match x, h with | none, h => h | some _, ⟨h, q⟩ => ⟨h, c.mono e q⟩, fun {H v x} h => match x, h with | none, h => h | some _, ⟨_, q⟩ => c.ru q⟩

/-- the i-th place of a row -/
structure Nth {α β : Type} (t : TC K α) (i : Nat) (c : Cod K β) (p : α → β) : Prop where
  get : ∀ {H : Hp} {vs : List V} {x : α}, t.rp H vs x → ∃ v, vs[i]? = some v ∧ c.rp H v (p x)
theorem nthL {α : Type} {c : Cod K α} : Nth (tc1 c) 0 c (fun x => x) := ⟨fun ⟨v, h, q⟩ => ⟨v, by rw [h]; rfl, q⟩⟩
theorem nthZ {α β : Type} {c : Cod K α} {t : TC K β} : Nth (tcC c t) 0 c (fun x => x.1) := ⟨fun ⟨v, r, h, q, _⟩ => ⟨v, by rw [h]; rfl, q⟩⟩
theorem nthS {α β γ : Type} {c : Cod K α} {t : TC K β} {i : Nat} {d : Cod K γ} {p : β → γ} (h : Nth t i d p) : Nth (tcC c t) (i + 1) d (fun x => p x.2) := ⟨fun ⟨v, r, e, _, q⟩ => by
  obtain ⟨w, h1, h2⟩ := h.get q
  exact ⟨w, by rw [e]; simpa using h1, h2⟩⟩
end

/-! ### cells: what a local name owns -/
structure Cel (K : Frag) (α : Type) where
  ct : Hp → HO → α → Prop
  mono : ∀ {H H' : Hp} {o : HO} {x : α}, Same H H' → ct H o x → ct H' o x
  nt : ∀ {H : Hp} {o : HO} {x : α}, ct H o x → Mut (some o)
def lstC {K : Frag} {α : Type} (c : Cod K α) : Cel K (List α) := ⟨fun H o x => ∃ vs, o = .lst vs ∧ Row c H vs x, fun e ⟨vs, h, q⟩ => ⟨vs, h, q.mono e⟩, fun ⟨_, h, _⟩ => by rw [h]; trivial⟩

inductive Ent (K : Frag) : Type 1 where
  | no
  | im {α : Type} (c : Cod K α) (x : α)
  | ow {α : Type} (c : Cel K α) (x : α)
  /-- the name of what is lent; what is lent (at a place of its own behind the names) -/
  | lp
  | ln {α : Type} (c : Cel K α) (x : α)
abbrev En (K : Frag) := List (Ent K)
def Ent.isOw {K : Frag} : Ent K → Bool
  | .ow _ _ => true
  | _ => false
/-- the heap at the entry and its part that stands still; what is lent to be changed -/
structure Ct where
  W : Hp
  H : Hp
  B : Addr → Prop
  a : Option Addr
def Ent.at {K : Frag} (C : Ct) (e : Ent K) (s : Option V) (W H : Hp) : Prop := match e with
  | .no => True
  | .im c x => ∃ v, s = some v ∧ c.rp W v x
  | .ow c x => ∃ a o, s = some (.ref a) ∧ W a = none ∧ (C.H a = none ∨ C.B a) ∧ H a = some o ∧ c.ct W o x
  | .lp => ∃ a, C.a = some a ∧ s = some (.ref a)
  | .ln c x => ∃ a o, C.a = some a ∧ W a = none ∧ H a = some o ∧ c.ct W o x
def own {K : Frag} (Γ : En K) (i : Nat) : Prop := ∃ e, Γ[i]? = some e ∧ e.isOw = true

def drops0 {K : Frag} : List Nat → En K → En K
  | [], Γ => Γ
  | i :: is, Γ => drops0 is (Γ.set i .no)
structure Sat {K : Frag} (C : Ct) (Γ : En K) (σ : L2.St) (W H : Hp) : Prop where
  sl : ∀ (i : Nat) (e : Ent K), Γ[i]? = some e → e.at C (σ[i]?.getD none) W H
  ap : ∀ (i j : Nat) (a : Addr), i ≠ j → own Γ i → own Γ j → σ[i]? = some (some (.ref a)) → σ[j]? ≠ some (some (.ref a))
  sub : Same W H
  old : Same C.W W
  la : ∀ i a, C.a = some a → own Γ i → σ[i]? ≠ some (some (.ref a))
  fr : ∀ a o, C.H a = some o → ¬ C.B a → C.a ≠ some a → H a = some o
  li : ∀ a, C.H a ≠ none → H a ≠ none
  nw : ∀ a, C.H a ≠ none → C.W a = none → W a = none
  lb : ∀ a, C.B a ∨ C.a = some a → H a ≠ none
/-- both heaps grow, nothing changes -/
structure Grow (W H W' H' : Hp) : Prop where
  w : Same W W'
  h : Same H H'
  sub : Same W' H'
  nw : ∀ a, H a ≠ none → W a = none → W' a = none
section
variable {K : Frag} {C : Ct} {Γ : En K} {σ : L2.St} {W H W' H' : Hp}
theorem Same.nn {a : Addr} (e : Same H H') (h : H a ≠ none) : H' a ≠ none := fun z => by
  cases q : H a with
  | none => exact h q
  | some o => have := e a o q; rw [z] at this; cases this
theorem Grow.refl (h : Same W H) : Grow W H W H := ⟨Same.refl _, Same.refl _, h, fun _ _ h => h⟩
theorem Grow.trans {W2 H2 : Hp} (a : Grow W H W' H') (b : Grow W' H' W2 H2) : Grow W H W2 H2 :=
  ⟨a.w.trans b.w, a.h.trans b.h, b.sub, fun x h1 h2 => b.nw x (Same.nn a.h h1) (a.nw x h1 h2)⟩
/-- a new object that stands still -/
theorem Grow.new {p : Addr} {o : HO} (s : Same W H) (hp : H p = none) : Grow W H (upd W p o) (upd H p o) := by
  have wp : W p = none := s.free hp
  refine ⟨fun b u e => ?_, fun b u e => ?_, fun b u e => ?_, fun b h1 h2 => ?_⟩
  · rw [upd_ne (ne_of_none e wp)]; exact e
  · rw [upd_ne (ne_of_none e hp)]; exact e
  · by_cases hb : b = p
    · subst hb; rw [upd_same] at e ⊢; exact e
    · rw [upd_ne hb] at e ⊢; exact s b u e
  · have hb : b ≠ p := fun z => by subst z; exact h1 hp
    rw [upd_ne hb]; exact h2
theorem Ent.grow {e : Ent K} {s : Option V} (g : Grow W H W' H') (h : e.at C s W H) : e.at C s W' H' := by
  cases e with
  | no => trivial
  | im c x => obtain ⟨v, h1, h2⟩ := h; exact ⟨v, h1, c.mono g.w h2⟩
  | ow c x =>
    obtain ⟨a, o, h1, h2, h3, h4, h5⟩ := h
    exact ⟨a, o, h1, g.nw a (by rw [h4]; simp) h2, h3, g.h _ _ h4, c.mono g.w h5⟩
  | lp => exact h
  | ln c x =>
    obtain ⟨a, o, h1, h2, h4, h5⟩ := h
    exact ⟨a, o, h1, g.nw a (by rw [h4]; simp) h2, g.h _ _ h4, c.mono g.w h5⟩
theorem Sat.grow (s : Sat C Γ σ W H) (g : Grow W H W' H') : Sat C Γ σ W' H' where
  sl := fun i e h => Ent.grow g (s.sl i e h)
  ap := s.ap
  sub := g.sub
  old := s.old.trans g.w
  la := s.la
  fr := fun a o h hb ha => g.h _ _ (s.fr a o h hb ha)
  li := fun a h => Same.nn g.h (s.li a h)
  nw := fun a h1 h2 => g.nw a (s.li a h1) (s.nw a h1 h2)
  lb := fun a h => Same.nn g.h (s.lb a h)
theorem own_ne {i j : Nat} {e : Ent K} (h : own (Γ.set i e) j) (hj : j ≠ i) : own Γ j := by
  obtain ⟨u, h1, h2⟩ := h
  rw [List.getElem?_set_ne (Ne.symm hj)] at h1
  exact ⟨u, h1, h2⟩
theorem own_no {i : Nat} {e : Ent K} (he : e.isOw = false) : ¬ own (Γ.set i e) i := fun ⟨u, h1, h2⟩ => by
  by_cases hi : i < Γ.length
  · rw [List.getElem?_set_self hi] at h1
    have := Option.some.inj h1
    rw [← this, he] at h2; cases h2
  · rw [List.getElem?_eq_none (by rw [List.length_set]; omega)] at h1; cases h1
/-- a name is given a value (that stands still) -/
theorem Sat.put {i : Nat} {α : Type} {c : Cod K α} {x : α} {v : V} (s : Sat C Γ σ W H) (hi : i < σ.length) (h : c.rp W v x) : Sat C (Γ.set i (.im c x)) (σ.set i (some v)) W H where
  sl := fun j e q => by
    by_cases hj : j = i
    · subst hj
      by_cases hl : j < Γ.length
      · rw [List.getElem?_set_self hl] at q
        have := Option.some.inj q; subst this
        rw [List.getElem?_set_self hi]
        exact ⟨v, rfl, h⟩
      · rw [List.getElem?_eq_none (by rw [List.length_set]; omega)] at q; cases q
    · rw [List.getElem?_set_ne (Ne.symm hj)] at q ⊢
      exact s.sl j e q
  ap := fun j k a hjk hj hk e1 => by
    have nj : j ≠ i := fun z => by subst z; exact own_no rfl hj
    have nk : k ≠ i := fun z => by subst z; exact own_no rfl hk
    rw [List.getElem?_set_ne (Ne.symm nj)] at e1
    rw [List.getElem?_set_ne (Ne.symm nk)]
    exact s.ap j k a hjk (own_ne hj nj) (own_ne hk nk) e1
  sub := s.sub
  old := s.old
  la := fun j a ha hj => by
    have nj : j ≠ i := fun z => by subst z; exact own_no rfl hj
    rw [List.getElem?_set_ne (Ne.symm nj)]
    exact s.la j a ha (own_ne hj nj)
  fr := s.fr
  li := s.li
  nw := s.nw
  lb := s.lb
/-- what is known of a name is forgotten -/
theorem Sat.drop (i : Nat) (s : Sat C Γ σ W H) : Sat C (Γ.set i .no) σ W H where
  sl := fun j e q => by
    by_cases hj : j = i
    · subst hj
      by_cases hl : j < Γ.length
      · rw [List.getElem?_set_self hl] at q
        have := Option.some.inj q; subst this; trivial
      · rw [List.getElem?_eq_none (by rw [List.length_set]; omega)] at q; cases q
    · rw [List.getElem?_set_ne (Ne.symm hj)] at q
      exact s.sl j e q
  ap := fun j k a hjk hj hk e1 => by
    have nj : j ≠ i := fun z => by subst z; exact own_no rfl hj
    have nk : k ≠ i := fun z => by subst z; exact own_no rfl hk
    exact s.ap j k a hjk (own_ne hj nj) (own_ne hk nk) e1
  sub := s.sub
  old := s.old
  la := fun j a ha hj => by
    have nj : j ≠ i := fun z => by subst z; exact own_no rfl hj
    exact s.la j a ha (own_ne hj nj)
  fr := s.fr
  li := s.li
  nw := s.nw
  lb := s.lb
/-- an address that no name owns -/
def Apart (Γ : En K) (σ : L2.St) (p : Addr) : Prop := ∀ i, own Γ i → σ[i]? ≠ some (some (.ref p))
theorem Sat.apart {p : Addr} (s : Sat C Γ σ W H) (hp : H p = none) : Apart Γ σ p := fun i ⟨e, h1, h2⟩ z => by
  cases e with
  | no => cases h2
  | im c x => cases h2
  | ow c x =>
    obtain ⟨a, o, e1, _, _, e4, _⟩ := s.sl i _ h1
    rw [z] at e1
    have := Option.some.inj (show some (V.ref p) = some (V.ref a) from e1)
    injection this with this
    subst this
    rw [hp] at e4; cases e4
  | lp => cases h2
  | ln c x => cases h2
/-- a name is given a new object of its own -/
theorem Sat.take {i : Nat} {α : Type} {c : Cel K α} {x : α} {p : Addr} {o : HO} (s : Sat C Γ σ W H) (hi : i < σ.length) (hw : W p = none) (hb : C.H p = none ∨ C.B p) (hp : H p = some o) (h : c.ct W o x) (ha : Apart Γ σ p) (hla : C.a ≠ some p) :
    Sat C (Γ.set i (.ow c x)) (σ.set i (some (.ref p))) W H where
  sl := fun j e q => by
    by_cases hj : j = i
    · subst hj
      by_cases hl : j < Γ.length
      · rw [List.getElem?_set_self hl] at q
        have := Option.some.inj q; subst this
        rw [List.getElem?_set_self hi]
        exact ⟨p, o, rfl, hw, hb, hp, h⟩
      · rw [List.getElem?_eq_none (by rw [List.length_set]; omega)] at q; cases q
    · rw [List.getElem?_set_ne (Ne.symm hj)] at q ⊢
      exact s.sl j e q
  ap := fun j k a hjk hj hk e1 => by
    by_cases nj : j = i
    · subst nj
      rw [List.getElem?_set_self hi] at e1
      have := Option.some.inj (Option.some.inj e1)
      injection this with this
      subst this
      have nk : k ≠ j := Ne.symm hjk
      rw [List.getElem?_set_ne (Ne.symm nk)]
      exact ha k (own_ne hk nk)
    · by_cases nk : k = i
      · subst nk
        rw [List.getElem?_set_ne (Ne.symm nj)] at e1
        rw [List.getElem?_set_self hi]
        intro z
        have := Option.some.inj (Option.some.inj z)
        injection this with this
        subst this
        exact ha j (own_ne hj nj) e1
      · rw [List.getElem?_set_ne (Ne.symm nj)] at e1
        rw [List.getElem?_set_ne (Ne.symm nk)]
        exact s.ap j k a hjk (own_ne hj nj) (own_ne hk nk) e1
  sub := s.sub
  old := s.old
  la := fun j a ha hj => by
    by_cases nj : j = i
    · subst nj
      rw [List.getElem?_set_self hi]
      intro z
      have := Option.some.inj (Option.some.inj z)
      injection this with this
      subst this
      exact hla ha
    · rw [List.getElem?_set_ne (Ne.symm nj)]
      exact s.la j a ha (own_ne hj nj)
  fr := s.fr
  li := s.li
  nw := s.nw
  lb := s.lb
/-- what a name owns is changed (by whomever; the heap may have grown) -/
theorem Sat.turn {i : Nat} {α β : Type} {c : Cel K α} {c' : Cel K β} {x : α} {y : β} {p : Addr} {o' : HO} (s : Sat C Γ σ W H) (hi : Γ[i]? = some (.ow c x)) (e : σ[i]? = some (some (.ref p)))
    (w : Same W W') (sub : Same W' H') (nw : ∀ a, H a ≠ none → W a = none → W' a = none) (hh : ∀ b u, b ≠ p → H b = some u → H' b = some u) (hp : H' p = some o') (h : c'.ct W' o' y) : Sat C (Γ.set i (.ow c' y)) σ W' H' := by
  obtain ⟨a, o, e1, e2, e3, e4, e5⟩ := s.sl i _ hi
  rw [e] at e1
  have ea := Option.some.inj (show some (V.ref p) = some (V.ref a) from e1)
  injection ea with ea
  subst ea
  have oi : own Γ i := ⟨_, hi, rfl⟩
  have hl : i < Γ.length := (List.getElem?_eq_some_iff.mp hi).1
  have wp : W' p = none := nw p (by rw [e4]; simp) e2
  have own' : ∀ j, own (Γ.set i (.ow c' y)) j → own Γ j := fun j hj => by
    by_cases q : j = i
    · rw [q]; exact oi
    · exact own_ne hj q
  have pa : C.a ≠ some p := fun z => s.la i p z oi e
  refine ⟨fun j u q => ?_, fun j k a hjk hj hk => s.ap j k a hjk (own' j hj) (own' k hk), sub, s.old.trans w, fun j a ha hj => s.la j a ha (own' j hj), fun b u q hb ha => ?_, fun b q => ?_, fun b h1 h2 => nw b (s.li b h1) (s.nw b h1 h2), fun b q => ?_⟩
  · by_cases hj : j = i
    · subst hj
      rw [List.getElem?_set_self hl] at q
      have := Option.some.inj q; subst this
      rw [e]
      exact ⟨p, o', rfl, wp, e3, hp, h⟩
    · rw [List.getElem?_set_ne (Ne.symm hj)] at q
      have z := s.sl j u q
      cases u with
      | no => trivial
      | im d t => obtain ⟨v, h1, h2⟩ := z; exact ⟨v, h1, d.mono w h2⟩
      | ow d t =>
        obtain ⟨b, ob, f1, f2, f3, f4, f5⟩ := z
        have nb : b ≠ p := fun z => by
          subst z
          have oj : own Γ j := ⟨_, q, rfl⟩
          refine s.ap i j b (Ne.symm hj) oi oj e ?_
          cases q2 : σ[j]? with
          | none => rw [q2] at f1; cases f1
          | some w2 => rw [q2] at f1; rw [show w2 = some (V.ref b) from f1]
        exact ⟨b, ob, f1, nw b (by rw [f4]; simp) f2, f3, hh b ob nb f4, d.mono w f5⟩
      | lp => exact z
      | ln d t =>
        obtain ⟨b, ob, f1, f2, f4, f5⟩ := z
        have nb : b ≠ p := fun z => by subst z; exact pa f1
        exact ⟨b, ob, f1, nw b (by rw [f4]; simp) f2, hh b ob nb f4, d.mono w f5⟩
  · refine hh b u (fun z => ?_) (s.fr b u q hb ha)
    subst z
    rcases e3 with z | z
    · rw [z] at q; cases q
    · exact hb z
  · by_cases hb : b = p
    · subst hb; rw [hp]; simp
    · intro z
      cases q2 : H b with
      | none => exact s.li b q q2
      | some u => rw [hh b u hb q2] at z; cases z
  · by_cases hb : b = p
    · subst hb; rw [hp]; simp
    · intro z
      cases q2 : H b with
      | none => exact s.lb b q q2
      | some u => rw [hh b u hb q2] at z; cases z
/-- what a name owns is from now on a value that stands still -/
theorem Sat.freeze {i : Nat} {α : Type} {c : Cod K α} {xs : List α} (s : Sat C Γ σ W H) (hi : Γ[i]? = some (.ow (lstC c) xs)) (hb : ∀ a, C.B a → σ[i]? ≠ some (some (.ref a))) :
    ∃ W', Same W W' ∧ Sat C (Γ.set i (.im (cLst c) xs)) σ W' H := by
  obtain ⟨a, o, e1, e2, e3, e4, e5⟩ := s.sl i _ hi
  obtain ⟨vs, rfl, r⟩ := e5
  have oi : own Γ i := ⟨_, hi, rfl⟩
  have ei : σ[i]? = some (some (.ref a)) := by
    cases q2 : σ[i]? with
    | none => rw [q2] at e1; cases e1
    | some w2 => rw [q2] at e1; rw [show w2 = some (V.ref a) from e1]
  have w : Same W (upd W a (.lst vs)) := fun b u q => by rw [upd_ne (ne_of_none q e2)]; exact q
  have hl : i < Γ.length := (List.getElem?_eq_some_iff.mp hi).1
  have na : C.H a = none := e3.elim id fun z => absurd ei (hb a z)
  refine ⟨upd W a (.lst vs), w, fun j u q => ?_, fun j k b hjk hj hk => ?_, fun b u q => ?_, s.old.trans w, fun j b hb hj => s.la j b hb (own_ne hj fun z => by subst z; exact own_no rfl hj), s.fr, s.li, fun b h1 h2 => ?_, s.lb⟩
  · by_cases hj : j = i
    · subst hj
      rw [List.getElem?_set_self hl] at q
      have := Option.some.inj q; subst this
      rw [ei]
      exact ⟨.ref a, rfl, a, vs, rfl, upd_same, r.mono w⟩
    · rw [List.getElem?_set_ne (Ne.symm hj)] at q
      have z := s.sl j u q
      cases u with
      | no => trivial
      | im d t => obtain ⟨v, h1, h2⟩ := z; exact ⟨v, h1, d.mono w h2⟩
      | ow d t =>
        obtain ⟨b, ob, f1, f2, f3, f4, f5⟩ := z
        have nb : b ≠ a := fun z => by
          subst z
          have oj : own Γ j := ⟨_, q, rfl⟩
          refine s.ap i j b (Ne.symm hj) oi oj ei ?_
          cases q2 : σ[j]? with
          | none => rw [q2] at f1; cases f1
          | some w2 => rw [q2] at f1; rw [show w2 = some (V.ref b) from f1]
        exact ⟨b, ob, f1, by rw [upd_ne nb]; exact f2, f3, f4, d.mono w f5⟩
      | lp => exact z
      | ln d t =>
        obtain ⟨b, ob, f1, f2, f4, f5⟩ := z
        have nb : b ≠ a := fun z => by subst z; exact s.la i b f1 oi ei
        exact ⟨b, ob, f1, by rw [upd_ne nb]; exact f2, f4, d.mono w f5⟩
  · have nj : j ≠ i := fun z => by subst z; exact own_no rfl hj
    have nk : k ≠ i := fun z => by subst z; exact own_no rfl hk
    exact s.ap j k b hjk (own_ne hj nj) (own_ne hk nk)
  · by_cases q2 : b = a
    · subst q2; rw [upd_same] at q; cases q; exact e4
    · rw [upd_ne q2] at q; exact s.sub b u q
  · have nb : b ≠ a := fun z => by subst z; exact h1 na
    rw [upd_ne nb]; exact s.nw b h1 h2
/-- an object of nobody's changes -/
theorem Sat.side {p : Addr} {o : HO} (s : Sat C Γ σ W H) (cp : C.H p = none) (wp : W p = none) (ap : Apart Γ σ p) (ca : C.a ≠ some p) : Sat C Γ σ W (upd H p o) := by
  have nn : ∀ b, H b ≠ none → upd H p o b ≠ none := fun b h => by
    by_cases hb : b = p
    · subst hb; rw [upd_same]; simp
    · rw [upd_ne hb]; exact h
  refine ⟨fun i e h => ?_, s.ap, fun b u e => by rw [upd_ne (ne_of_none e wp)]; exact s.sub b u e, s.old, s.la, fun b u e hb ha => by rw [upd_ne (ne_of_none e cp)]; exact s.fr b u e hb ha, fun b h => nn b (s.li b h), s.nw, fun b h => nn b (s.lb b h)⟩
  have t := s.sl i e h
  cases e with
  | no => trivial
  | im c x => exact t
  | ow c x =>
    obtain ⟨a, u, e1, e2, e3, e4, e5⟩ := t
    have na : a ≠ p := fun z => by
      subst z
      refine ap i ⟨_, h, rfl⟩ ?_
      cases q : σ[i]? with
      | none => rw [q] at e1; cases e1
      | some w => rw [q] at e1; rw [show w = some (V.ref a) from e1]
    exact ⟨a, u, e1, e2, e3, by rw [upd_ne na]; exact e4, e5⟩
  | lp => exact t
  | ln c x =>
    obtain ⟨a, u, e1, e2, e4, e5⟩ := t
    have na : a ≠ p := fun z => by subst z; exact ca e1
    exact ⟨a, u, e1, e2, by rw [upd_ne na]; exact e4, e5⟩
def lnU (m : Nat) : Nat → En K → Bool
  | _, [] => true
  | i, .ln _ _ :: Γ => (i == m) && lnU m (i + 1) Γ
  | i, .no :: Γ => lnU m (i + 1) Γ
  | i, .im _ _ :: Γ => lnU m (i + 1) Γ
  | i, .ow _ _ :: Γ => lnU m (i + 1) Γ
  | i, .lp :: Γ => lnU m (i + 1) Γ
theorem lnU_at {m : Nat} {α : Type} {c : Cel K α} {x : α} : ∀ {Γ : En K} {i : Nat}, lnU m i Γ = true → ∀ j, Γ[j]? = some (.ln c x) → i + j = m
  | [], i, h, j, q => by simp at q
  | e :: Γ, i, h, 0, q => by
    simp at q; subst q
    have h : ((i == m) && lnU m (i + 1) Γ) = true := h
    rw [Bool.and_eq_true] at h
    exact eq_of_beq h.1
  | e :: Γ, i, h, j + 1, q => by
    have q : Γ[j]? = some (.ln c x) := by simpa using q
    have h' : lnU m (i + 1) Γ = true := by
      cases e with
      | ln d t =>
        have h : ((i == m) && lnU m (i + 1) Γ) = true := h
        rw [Bool.and_eq_true] at h
        exact h.2
      | _ => exact h
    have := lnU_at h' j q
    omega
/-- what is lent is changed -/
theorem Sat.turnL {m : Nat} {α β : Type} {c : Cel K α} {c' : Cel K β} {x : α} {y : β} {p : Addr} {o' : HO} (s : Sat C Γ σ W H) (hm : Γ[m]? = some (.ln c x)) (ca : C.a = some p)
    (w : Same W W') (sub : Same W' H') (nw : ∀ a, H a ≠ none → W a = none → W' a = none) (hh : ∀ b u, b ≠ p → H b = some u → H' b = some u) (hp : H' p = some o') (h : c'.ct W' o' y)
    (hu : lnU m 0 Γ = true) : Sat C (Γ.set m (.ln c' y)) σ W' H' := by
  obtain ⟨a, o, e1, e2, e4, e5⟩ := s.sl m _ hm
  rw [ca] at e1
  have ea := Option.some.inj e1
  subst ea
  have hl : m < Γ.length := (List.getElem?_eq_some_iff.mp hm).1
  have wp : W' p = none := nw p (by rw [e4]; simp) e2
  have own' : ∀ j, own (Γ.set m (.ln c' y)) j → own Γ j := fun j hj => own_ne hj fun z => by subst z; exact own_no rfl hj
  have nn : ∀ b, H b ≠ none → H' b ≠ none := fun b q => by
    by_cases hb : b = p
    · subst hb; rw [hp]; simp
    · intro z
      cases q2 : H b with
      | none => exact q q2
      | some u => rw [hh b u hb q2] at z; cases z
  refine ⟨fun j u q => ?_, fun j k a hjk hj hk => s.ap j k a hjk (own' j hj) (own' k hk), sub, s.old.trans w, fun j a ha hj => s.la j a ha (own' j hj), fun b u q hb ha => ?_, fun b q => nn b (s.li b q), fun b h1 h2 => nw b (s.li b h1) (s.nw b h1 h2), fun b q => nn b (s.lb b q)⟩
  · by_cases hj : j = m
    · subst hj
      rw [List.getElem?_set_self hl] at q
      have := Option.some.inj q; subst this
      exact ⟨p, o', ca, wp, hp, h⟩
    · rw [List.getElem?_set_ne (Ne.symm hj)] at q
      have z := s.sl j u q
      cases u with
      | no => trivial
      | im d t => obtain ⟨v, h1, h2⟩ := z; exact ⟨v, h1, d.mono w h2⟩
      | ow d t =>
        obtain ⟨b, ob, f1, f2, f3, f4, f5⟩ := z
        have nb : b ≠ p := fun z => by
          subst z
          refine s.la j b ca ⟨_, q, rfl⟩ ?_
          cases q2 : σ[j]? with
          | none => rw [q2] at f1; cases f1
          | some w2 => rw [q2] at f1; rw [show w2 = some (V.ref b) from f1]
        exact ⟨b, ob, f1, nw b (by rw [f4]; simp) f2, f3, hh b ob nb f4, d.mono w f5⟩
      | lp => exact z
      | ln d t => exact absurd (by have := lnU_at hu j q; omega) hj
  · have nb : b ≠ p := fun z => by subst z; exact ha ca
    exact hh b u nb (s.fr b u q hb ha)
/-- within a part: all that stands now stays, but what the names own -/
def inner (C : Ct) (Γ : En K) (σ : L2.St) (W H : Hp) : Ct := ⟨W, H, fun a => C.B a ∨ ∃ i, own Γ i ∧ σ[i]? = some (some (.ref a)), C.a⟩
theorem Sat.into (s : Sat C Γ σ W H) : Sat (inner C Γ σ W H) Γ σ W H := by
  refine ⟨fun i e h => ?_, s.ap, s.sub, Same.refl _, s.la, fun _ _ h _ _ => h, fun _ h => h, fun _ _ h => h, fun a h => ?_⟩
  · have t := s.sl i e h
    cases e with
    | no => trivial
    | im c x => exact t
    | ow c x =>
      obtain ⟨a, u, e1, e2, e3, e4, e5⟩ := t
      refine ⟨a, u, e1, e2, .inr (.inr ⟨i, ⟨_, h, rfl⟩, ?_⟩), e4, e5⟩
      cases q : σ[i]? with
      | none => rw [q] at e1; cases e1
      | some w => rw [q] at e1; rw [show w = some (V.ref a) from e1]
    | lp => exact t
    | ln c x => exact t
  · rcases h with (h | ⟨i, ⟨e, h1, h2⟩, h3⟩) | h
    · exact s.lb a (.inl h)
    · cases e with
      | no => cases h2
      | im c x => cases h2
      | ow c x =>
        obtain ⟨b, u, e1, e2, e3, e4, e5⟩ := s.sl i _ h1
        rw [h3] at e1
        have := Option.some.inj (show some (V.ref a) = some (V.ref b) from e1)
        injection this with this
        subst this
        rw [e4]; simp
      | lp => cases h2
      | ln c x => cases h2
    · exact s.lb a (.inr h)
theorem Sat.outof {Γ' : En K} {σ' : L2.St} (s : Sat C Γ σ W H) (t : Sat (inner C Γ σ W H) Γ' σ' W' H') : Sat C Γ' σ' W' H' := by
  have own1 : ∀ a, (∃ i, own Γ i ∧ σ[i]? = some (some (.ref a))) → C.H a = none ∨ C.B a := fun a ⟨i, ⟨e, h1, h2⟩, h3⟩ => by
    cases e with
    | no => cases h2
    | im c x => cases h2
    | ow c x =>
      obtain ⟨b, u, e1, e2, e3, e4, e5⟩ := s.sl i _ h1
      rw [h3] at e1
      have := Option.some.inj (show some (V.ref a) = some (V.ref b) from e1)
      injection this with this
      subst this
      exact e3
    | lp => cases h2
    | ln c x => cases h2
  refine ⟨fun i e h => ?_, t.ap, t.sub, s.old.trans t.old, t.la, fun a o h hb ha => ?_, fun a h => t.li a (s.li a h), fun a h1 h2 => t.nw a (s.li a h1) (s.nw a h1 h2), fun a h => t.lb a (h.imp .inl id)⟩
  · have q := t.sl i e h
    cases e with
    | no => trivial
    | im c x => exact q
    | ow c x =>
      obtain ⟨a, u, e1, e2, e3, e4, e5⟩ := q
      refine ⟨a, u, e1, e2, ?_, e4, e5⟩
      rcases e3 with e3 | e3 | e3
      · left
        cases q2 : C.H a with
        | none => rfl
        | some o => exact absurd e3 (s.li a (by rw [q2]; simp))
      · exact .inr e3
      · exact own1 a e3
    | lp => exact q
    | ln c x => exact q
  · refine t.fr a o (s.fr a o h hb ha) (fun z => ?_) ha
    rcases z with z | z
    · exact hb z
    · rcases own1 a z with z | z
      · rw [z] at h; cases h
      · exact hb z
/-- names set aside -/
theorem drops_get : ∀ (vs : List Nat) (Γ : En K) (i : Nat) (e : Ent K), (drops0 vs Γ)[i]? = some e → e = .no ∨ (i ∉ vs ∧ Γ[i]? = some e)
  | [], Γ, i, e, h => .inr ⟨by simp, h⟩
  | v :: vs, Γ, i, e, h => by
    rcases drops_get vs _ i e h with q | ⟨q1, q2⟩
    · exact .inl q
    · by_cases hi : i = v
      · subst hi
        by_cases hl : i < Γ.length
        · rw [List.getElem?_set_self hl] at q2
          exact .inl (Option.some.inj q2).symm
        · rw [List.getElem?_eq_none (by rw [List.length_set]; omega)] at q2; cases q2
      · rw [List.getElem?_set_ne (Ne.symm hi)] at q2
        exact .inr ⟨by simp only [List.mem_cons, not_or]; exact ⟨hi, q1⟩, q2⟩
theorem own_drops {vs : List Nat} {i : Nat} (h : own (drops0 vs Γ) i) : i ∉ vs ∧ own Γ i := by
  obtain ⟨e, h1, h2⟩ := h
  rcases drops_get vs Γ i e h1 with q | ⟨q1, q2⟩
  · rw [q] at h2; cases h2
  · exact ⟨q1, e, q2, h2⟩
theorem wipe_get {σ : L2.St} {i : Nat} : ∀ {vs : List Nat}, i ∉ vs → (wipe σ vs)[i]? = σ[i]?
  | [], _ => rfl
  | v :: vs, h => by
    simp only [List.mem_cons, not_or] at h
    show ((wipe σ vs).set v none)[i]? = _
    rw [List.getElem?_set_ne (Ne.symm h.1)]
    exact wipe_get h.2
theorem Sat.wipe (vs : List Nat) (s : Sat C Γ σ W H) : Sat C (drops0 vs Γ) (L2.wipe σ vs) W H where
  sl := fun i e h => by
    rcases drops_get vs Γ i e h with q | ⟨q1, q2⟩
    · subst q; trivial
    · rw [wipe_get q1]; exact s.sl i e q2
  ap := fun i j a hij hi hj => by
    obtain ⟨i1, i2⟩ := own_drops hi
    obtain ⟨j1, j2⟩ := own_drops hj
    rw [wipe_get i1, wipe_get j1]
    exact s.ap i j a hij i2 j2
  sub := s.sub
  old := s.old
  la := fun i a ha hi => by
    obtain ⟨i1, i2⟩ := own_drops hi
    rw [wipe_get i1]
    exact s.la i a ha i2
  fr := s.fr
  li := s.li
  nw := s.nw
  lb := s.lb
/-- back: σ and its wiped like know the same of the other names -/
theorem Sat.unwipe {vs : List Nat} (s : Sat C (drops0 vs Γ) (L2.wipe σ vs) W H) : Sat C (drops0 vs Γ) σ W H where
  sl := fun i e h => by
    have t := s.sl i e h
    rcases drops_get vs Γ i e h with q | ⟨q1, q2⟩
    · subst q; trivial
    · rw [wipe_get q1] at t; exact t
  ap := fun i j a hij hi hj => by
    have t := s.ap i j a hij hi hj
    rw [wipe_get (own_drops hi).1, wipe_get (own_drops hj).1] at t
    exact t
  sub := s.sub
  old := s.old
  la := fun i a ha hi => by
    have t := s.la i a ha hi
    rw [wipe_get (own_drops hi).1] at t
    exact t
  fr := s.fr
  li := s.li
  nw := s.nw
  lb := s.lb
end
end Ty

set_option maxHeartbeats 4000000
namespace Ty
open PySem PySem.Spec PyProof.Rows L2

/-! ### what must hold so that a piece runs to a wish -/
section
variable (X : Cx)
def wpe (e : Expr) : TE := fun σ H Q => ∀ pins s, Inv X pins σ H s → wpAny (model X.prog X.w) X.A (eval e X.env) (EP X pins σ Q) X.xe s
def wpt (e : Expr) : TT := fun σ H Q => ∀ pins s, Inv X pins σ H s → wpAny (model X.prog X.w) X.A (isTrue e X.env (eval e X.env)) (TP X pins σ Q) X.xe s
def wpw (e : Expr) : TT := fun σ H Q => ∀ wh pins s, Inv X pins σ H s → wpAny (model X.prog X.w) X.A (isTrue e X.env wh) (TP X pins σ Q) X.xe s
def wpa (es : List Expr) : TA := fun σ H Q => ∀ pos pins s, Inv X pins σ H s → wpAny (model X.prog X.w) X.A (spliced (backTo pos (starEach es X.env))) (AP X pins σ Q) X.xe s
def wpS (st : Stmt) : TS := fun D σ H => ∀ pins s, Inv X pins σ H s → wpAny (model X.prog X.w) X.A (exec st X.env) (SP X pins D) X.xe s
def wpB (st : List Stmt) : TS := fun D σ H => ∀ pins s, Inv X pins σ H s → wpAny (model X.prog X.w) X.A (execs st X.env) (SP X pins D) X.xe s
def wpg (tg : Expr) : TG := fun v σ H Q => ∀ pins s u, Inv X pins σ H s → RelV v u → wpAny (model X.prog X.w) X.A (assign tg X.env u) (fun _ s' => ∃ σ' H', Inv X pins σ' H' s' ∧ Q σ' H') X.xe s
def wpi (tg iter : Expr) : TI := fun σ H R => ∀ pins s, Inv X pins σ H s → wpAny (model X.prog X.w) X.A (eval iter X.env) (fun v s1 => wpAny (model X.prog X.w) X.A (pyIter v) (PIE X pins σ tg R) X.xe s1) X.xe s
end
section
variable {X : Cx} {e tg : Expr} {es : List Expr} {st : Stmt} {sts : List Stmt} {σ : L2.St} {H : Hp}
theorem pe_w : PE X e (wpe X e) := ⟨fun pins s _ _ _ I h => h pins s I⟩
theorem pt_w : PT X e (wpt X e) := ⟨fun pins s _ _ _ I h => h pins s I⟩
theorem pw_w : PW X e (wpw X e) := ⟨fun wh pins s _ _ _ I h => h wh pins s I⟩
theorem pa_w : PA X es (wpa X es) := ⟨fun pos pins s _ _ _ I h => h pos pins s I⟩
theorem ps_w : PS X st (wpS X st) := ⟨fun pins s _ _ _ I h => h pins s I⟩
theorem pss_w : PSs X sts (wpB X sts) := ⟨fun pins s _ _ _ I h => h pins s I⟩
theorem pg_w : PG X tg (wpg X tg) := ⟨fun pins s _ _ _ u _ I r h => h pins s u I r⟩
theorem pi_w : PI X tg e (wpi X tg e) := ⟨fun pins s _ _ _ I h => h pins s I⟩
theorem w_pe {t : TE} {Q : VK} (h : PE X e t) (q : t σ H Q) : wpe X e σ H Q := fun pins s I => h.run pins s σ H Q I q
theorem w_pt {t : TT} {Q : Bool → Hp → Prop} (h : PT X e t) (q : t σ H Q) : wpt X e σ H Q := fun pins s I => h.run pins s σ H Q I q
theorem w_pw {t : TT} {Q : Bool → Hp → Prop} (h : PW X e t) (q : t σ H Q) : wpw X e σ H Q := fun wh pins s I => h.run wh pins s σ H Q I q
theorem w_pa {t : TA} {Q : List V → Hp → Prop} (h : PA X es t) (q : t σ H Q) : wpa X es σ H Q := fun pos pins s I => h.run pos pins s σ H Q I q
theorem w_ps {t : TS} {D : Ends} (h : PS X st t) (q : t D σ H) : wpS X st D σ H := fun pins s I => h.run pins s σ H D I q
theorem w_pss {t : TS} {D : Ends} (h : PSs X sts t) (q : t D σ H) : wpB X sts D σ H := fun pins s I => h.run pins s σ H D I q
theorem w_pg {t : TG} {v : V} {Q : L2.St → Hp → Prop} (h : PG X tg t) (q : t v σ H Q) : wpg X tg v σ H Q := fun pins s u I r => h.run pins s σ H v u Q I r q
theorem w_pi {t : TI} {R : It → Hp → Prop} (h : PI X tg e t) (q : t σ H R) : wpi X tg e σ H R := fun pins s I => h.run pins s σ H R I q
end

/-! ### the judgements -/
section
variable (X : Cx) (C : Ct) {ρ α : Type}
/-- from Γ with the rest r to go, e gives an x and goes on to what J says -/
structure EX (Γ : En X.K) (e : Expr) (c : Cod X.K α) (r : Option ρ) (J : α → En X.K → Option ρ → Prop) : Prop where
  run : ∀ (z : ρ) σ W H (Q : VK), Sat C Γ σ W H → r = some z →
    (∀ x Γ' r' W' H' v, J x Γ' r' → r' = some z → Sat C Γ' σ W' H' → Same W W' → c.rp W' v x → Q v H') → wpe X e σ H Q
/-- a new object, not yet owned -/
structure EF (Γ : En X.K) (e : Expr) (c : Cel X.K α) (r : Option ρ) (J : α → En X.K → Option ρ → Prop) : Prop where
  run : ∀ (z : ρ) σ W H (Q : VK), Sat C Γ σ W H → r = some z →
    (∀ x Γ' r' W' H' p o, J x Γ' r' → r' = some z → Sat C Γ' σ W' H' → Same W W' → W' p = none → C.H p = none → H' p = some o → c.ct W' o x → Apart Γ' σ p → C.a ≠ some p → Q (.ref p) H') → wpe X e σ H Q
structure ET (Γ : En X.K) (e : Expr) (r : Option ρ) (J : Bool → En X.K → Option ρ → Prop) : Prop where
  run : ∀ (z : ρ) σ W H (Q : Bool → Hp → Prop), Sat C Γ σ W H → r = some z →
    (∀ x Γ' r' W' H', J x Γ' r' → r' = some z → Sat C Γ' σ W' H' → Same W W' → Q x H') → wpt X e σ H Q
structure EW (Γ : En X.K) (e : Expr) (r : Option ρ) (J : Bool → En X.K → Option ρ → Prop) : Prop where
  run : ∀ (z : ρ) σ W H (Q : Bool → Hp → Prop), Sat C Γ σ W H → r = some z →
    (∀ x Γ' r' W' H', J x Γ' r' → r' = some z → Sat C Γ' σ W' H' → Same W W' → Q x H') → wpw X e σ H Q
structure EA (Γ : En X.K) (es : List Expr) (t : TC X.K α) (r : Option ρ) (J : α → En X.K → Option ρ → Prop) : Prop where
  run : ∀ (z : ρ) σ W H (Q : List V → Hp → Prop), Sat C Γ σ W H → r = some z →
    (∀ x Γ' r' W' H' vs, J x Γ' r' → r' = some z → Sat C Γ' σ W' H' → Same W W' → t.rp W' vs x → Q vs H') → wpa X es σ H Q
structure EL (Γ : En X.K) (es : List Expr) (c : Cod X.K α) (r : Option ρ) (J : List α → En X.K → Option ρ → Prop) : Prop where
  run : ∀ (z : ρ) σ W H (Q : List V → Hp → Prop), Sat C Γ σ W H → r = some z →
    (∀ x Γ' r' W' H' vs, J x Γ' r' → r' = some z → Sat C Γ' σ W' H' → Same W W' → Row c W' vs x → x.length = es.length → Q vs H') → wpa X es σ H Q
end
instance {X : Cx} {C : Ct} {ρ : Type} {Γ : En X.K} {r : Option ρ} {α : Type} {c : Cod X.K α} {e : Expr} {J : α → En X.K → Option ρ → Prop} : CoeFun (EX X C Γ e c r J) (fun _ => ∀ (z : ρ) σ W H (Q : VK), Sat C Γ σ W H → r = some z →
    (∀ x Γ' r' W' H' v, J x Γ' r' → r' = some z → Sat C Γ' σ W' H' → Same W W' → c.rp W' v x → Q v H') → wpe X e σ H Q) := ⟨EX.run⟩
instance {X : Cx} {C : Ct} {ρ : Type} {Γ : En X.K} {r : Option ρ} {α : Type} {c : Cel X.K α} {e : Expr} {J : α → En X.K → Option ρ → Prop} : CoeFun (EF X C Γ e c r J) (fun _ => ∀ (z : ρ) σ W H (Q : VK), Sat C Γ σ W H → r = some z →
    (∀ x Γ' r' W' H' p o, J x Γ' r' → r' = some z → Sat C Γ' σ W' H' → Same W W' → W' p = none → C.H p = none → H' p = some o → c.ct W' o x → Apart Γ' σ p → C.a ≠ some p → Q (.ref p) H') → wpe X e σ H Q) := ⟨EF.run⟩
instance {X : Cx} {C : Ct} {ρ : Type} {Γ : En X.K} {r : Option ρ} {e : Expr} {J : Bool → En X.K → Option ρ → Prop} : CoeFun (ET X C Γ e r J) (fun _ => ∀ (z : ρ) σ W H (Q : Bool → Hp → Prop), Sat C Γ σ W H → r = some z →
    (∀ x Γ' r' W' H', J x Γ' r' → r' = some z → Sat C Γ' σ W' H' → Same W W' → Q x H') → wpt X e σ H Q) := ⟨ET.run⟩
instance {X : Cx} {C : Ct} {ρ : Type} {Γ : En X.K} {r : Option ρ} {e : Expr} {J : Bool → En X.K → Option ρ → Prop} : CoeFun (EW X C Γ e r J) (fun _ => ∀ (z : ρ) σ W H (Q : Bool → Hp → Prop), Sat C Γ σ W H → r = some z →
    (∀ x Γ' r' W' H', J x Γ' r' → r' = some z → Sat C Γ' σ W' H' → Same W W' → Q x H') → wpw X e σ H Q) := ⟨EW.run⟩
instance {X : Cx} {C : Ct} {ρ : Type} {Γ : En X.K} {r : Option ρ} {α : Type} {t : TC X.K α} {es : List Expr} {J : α → En X.K → Option ρ → Prop} : CoeFun (EA X C Γ es t r J) (fun _ => ∀ (z : ρ) σ W H (Q : List V → Hp → Prop), Sat C Γ σ W H → r = some z →
    (∀ x Γ' r' W' H' vs, J x Γ' r' → r' = some z → Sat C Γ' σ W' H' → Same W W' → t.rp W' vs x → Q vs H') → wpa X es σ H Q) := ⟨EA.run⟩
instance {X : Cx} {C : Ct} {ρ : Type} {Γ : En X.K} {r : Option ρ} {α : Type} {c : Cod X.K α} {es : List Expr} {J : List α → En X.K → Option ρ → Prop} : CoeFun (EL X C Γ es c r J) (fun _ => ∀ (z : ρ) σ W H (Q : List V → Hp → Prop), Sat C Γ σ W H → r = some z →
    (∀ x Γ' r' W' H' vs, J x Γ' r' → r' = some z → Sat C Γ' σ W' H' → Same W W' → Row c W' vs x → x.length = es.length → Q vs H') → wpa X es σ H Q) := ⟨EL.run⟩
/-- one knowledge gives another -/
def Wk {K : Frag} (C : Ct) (Γ Γ' : En K) : Prop := ∀ σ W H, Sat C Γ σ W H → ∃ W', Same W W' ∧ Sat C Γ' σ W' H
theorem wk_refl {K : Frag} {C : Ct} {Γ : En K} : Wk C Γ Γ := fun _ W _ s => ⟨W, Same.refl _, s⟩
theorem wk_of {K : Frag} {C : Ct} {Γ Γ' : En K} (h : Γ = Γ' := by rfl) : Wk C Γ Γ' := by subst h; exact wk_refl
theorem Wk.trans {K : Frag} {C : Ct} {Γ Γ' Γ2 : En K} (a : Wk C Γ Γ') (b : Wk C Γ' Γ2) : Wk C Γ Γ2 := fun σ W H s => by
  obtain ⟨W1, e1, s1⟩ := a σ W H s
  obtain ⟨W2, e2, s2⟩ := b σ W1 H s1
  exact ⟨W2, e1.trans e2, s2⟩
theorem wk_drop {K : Frag} {C : Ct} {Γ : En K} (i : Nat) : Wk C Γ (Γ.set i .no) := fun _ W _ s => ⟨W, Same.refl _, s.drop i⟩
abbrev drops {K : Frag} : List Nat → En K → En K := drops0
theorem wk_drops' {K : Frag} {C : Ct} : ∀ (is : List Nat) {Γ : En K}, Wk C Γ (drops is Γ)
  | [], _ => wk_refl
  | i :: is, _ => (wk_drop i).trans (wk_drops' is)
theorem wk_drops {K : Frag} {C : Ct} {Γ Γ' : En K} (is : List Nat) (h : drops is Γ = Γ' := by rfl) : Wk C Γ Γ' := by subst h; exact wk_drops' is

section
variable {X : Cx} {C : Ct} {ρ α β γ : Type} {Γ : En X.K} {e a b : Expr} {es : List Expr} {r : Option ρ} {pos : Pos}
theorem getD_some {σ : L2.St} {i : Nat} {v : V} (h : σ[i]?.getD none = some v) : σ[i]? = some (some v) := by
  cases q : σ[i]? with
  | none => rw [q] at h; cases h
  | some w => rw [q] at h; rw [show w = some v from h]
theorem ex_var {c : Cod X.K α} {x : α} {J : α → En X.K → Option ρ → Prop} {n : Str} (i : Nat) (hJ : J x Γ r) (hΓ : Γ[i]? = some (.im c x) := by rfl) (hN : X.N[i]? = some n := by rfl)
    (hv : Vis X.env.scope n := by first | exact Or.inl rfl | exact Or.inr (Or.inl rfl) | exact Or.inr (Or.inr rfl)) (hd : (n == ("__debug__" : Str)) = false := by decide) (hcd : (n == ("__classdict__" : Str)) = false := by decide) : EX X C Γ (.Name n pos) c r J :=
  .mk fun z σ W H Q s hr k => by
    obtain ⟨v, e1, e2⟩ := s.sl i _ hΓ
    exact w_pe (pe_var hN hv hd hcd) ⟨v, getD_some e1, k x Γ r W H v hJ hr s (Same.refl _) e2⟩
theorem ex_int {J : Int → En X.K → Option ρ → Prop} {i : Int} {j} (hJ : J i Γ r) : EX X C Γ (.Constant (.int i) j pos) cInt r J := .mk fun z σ W H Q s hr k => w_pe pe_int (k i Γ r W H _ hJ hr s (Same.refl _) rfl)
theorem ex_bl {J : Bool → En X.K → Option ρ → Prop} {i : Bool} {j} (hJ : J i Γ r) : EX X C Γ (.Constant (.bool i) j pos) cBool r J := .mk fun z σ W H Q s hr k => w_pe pe_bl (k i Γ r W H _ hJ hr s (Same.refl _) rfl)
theorem ex_str {J : Str → En X.K → Option ρ → Prop} {i : Str} {j} (hJ : J i Γ r) : EX X C Γ (.Constant (.str i) j pos) cStr r J := .mk fun z σ W H Q s hr k => w_pe pe_str (k i Γ r W H _ hJ hr s (Same.refl _) rfl)
theorem ex_none {J : Unit → En X.K → Option ρ → Prop} {j} (hJ : J () Γ r) : EX X C Γ (.Constant .none j pos) cNon r J := .mk fun z σ W H Q s hr k => w_pe pe_non (k () Γ r W H _ hJ hr s (Same.refl _) rfl)
/-- the same value read by another codec -/
theorem ex_as {c : Cod X.K α} {c' : Cod X.K β} {J : β → En X.K → Option ρ → Prop} (g : α → β) (hg : ∀ {H : Hp} {v : V} {x : α}, c.rp H v x → c'.rp H v (g x)) (h : EX X C Γ e c r fun x Γ' r' => J (g x) Γ' r') : EX X C Γ e c' r J :=
  .mk fun z σ W H Q s hr k => h z σ W H Q s hr fun x Γ' r' W' H' v j hr' s' w q => k (g x) Γ' r' W' H' v j hr' s' w (hg q)
theorem ex_u {c : Cod X.K α} {J : U → En X.K → Option ρ → Prop} (h : EX X C Γ e c r fun x Γ' r' => J (c.u x) Γ' r') : EX X C Γ e cU r J := ex_as c.u (fun q => c.ru q) h
theorem ex_wk {c : Cod X.K α} {J : α → En X.K → Option ρ → Prop} {Γ' : En X.K} (w : Wk C Γ Γ') (h : EX X C Γ' e c r J) : EX X C Γ e c r J := .mk fun z σ W H Q s hr k => by
  obtain ⟨W1, w1, s1⟩ := w σ W H s
  exact h z σ W1 H Q s1 hr fun x Γ2 r2 W2 H2 v j hr2 s2 w2 q => k x Γ2 r2 W2 H2 v j hr2 s2 (w1.trans w2) q

/-! operators -/
/-- a two-place operation on typed values -/
def Op2 (X : Cx) (f : Value → Value → Sem Value) (c1 : Cod X.K α) (c2 : Cod X.K β) (c3 : Cod X.K γ) (g : α → β → Option γ) : Prop :=
  ∃ r : R2, OpR X f r ∧ ∀ W H x y v u z (Q : VK), Same W H → c1.rp W v x → c2.rp W u y → g x y = some z → (∀ w W' H', Grow W H W' H' → c3.rp W' w z → Q w H') → r v u H Q
theorem ex_op2 {op : Operator} {c1 : Cod X.K α} {c2 : Cod X.K β} {c3 : Cod X.K γ} {g : α → β → Option γ} {J : γ → En X.K → Option ρ → Prop} (o : Op2 X (binaryOp op) c1 c2 c3 g)
    (h : EX X C Γ a c1 r fun x Γ1 r1 => EX X C Γ1 b c2 r1 fun y Γ2 r2 => ∃ k, r2 = g x y >>= k ∧ ∀ z, J z Γ2 (k z)) : EX X C Γ (.BinOp a op b pos) c3 r J := .mk fun z σ W H Q s hr k => by
  obtain ⟨ro, ho, hf⟩ := o
  refine w_pe (pe_op ho pe_w pe_w) (h z σ W H _ s hr fun x Γ1 r1 W1 H1 v j1 hr1 s1 w1 q1 => j1 z σ W1 H1 _ s1 hr1 fun y Γ2 r2 W2 H2 u j2 hr2 s2 w2 q2 => ?_)
  obtain ⟨k2, e2, j2⟩ := j2
  rw [e2] at hr2
  cases hg : g x y with
  | none => rw [hg] at hr2; cases hr2
  | some t =>
    rw [hg] at hr2
    exact hf W2 H2 x y v u t _ s2.sub (c1.mono w2 q1) q2 hg fun w W3 H3 G q3 => k t Γ2 (k2 t) W3 H3 w (j2 t) hr2 (s2.grow G) ((w1.trans w2).trans G.w) q3
/-- .. that always goes -/
theorem ex_op2T {op : Operator} {c1 : Cod X.K α} {c2 : Cod X.K β} {c3 : Cod X.K γ} {g : α → β → γ} {J : γ → En X.K → Option ρ → Prop} (o : Op2 X (binaryOp op) c1 c2 c3 fun x y => some (g x y))
    (h : EX X C Γ a c1 r fun x Γ1 r1 => EX X C Γ1 b c2 r1 fun y Γ2 r2 => J (g x y) Γ2 r2) : EX X C Γ (.BinOp a op b pos) c3 r J := .mk fun z σ W H Q s hr k => by
  obtain ⟨ro, ho, hf⟩ := o
  refine w_pe (pe_op ho pe_w pe_w) (h z σ W H _ s hr fun x Γ1 r1 W1 H1 v j1 hr1 s1 w1 q1 => j1 z σ W1 H1 _ s1 hr1 fun y Γ2 r2 W2 H2 u j2 hr2 s2 w2 q2 => ?_)
  exact hf W2 H2 x y v u _ _ s2.sub (c1.mono w2 q1) q2 rfl fun w W3 H3 G q3 => k _ Γ2 r2 W3 H3 w j2 hr2 (s2.grow G) ((w1.trans w2).trans G.w) q3
theorem ex_cmp {op : CmpOp} {c1 : Cod X.K α} {c2 : Cod X.K β} {g : α → β → Bool} {J : Bool → En X.K → Option ρ → Prop} (o : Op2 X (compareOp op) c1 c2 cBool fun x y => some (g x y))
    (h : EX X C Γ a c1 r fun x Γ1 r1 => EX X C Γ1 b c2 r1 fun y Γ2 r2 => J (g x y) Γ2 r2) (hm : behindInMarks op b = false := by first | exact nomark _ | rfl) : EX X C Γ (.Compare a [op] [b] pos) cBool r J := .mk fun z σ W H Q s hr k => by
  obtain ⟨ro, ho, hf⟩ := o
  refine w_pe (pe_cmpR ho pe_w pe_w hm) (h z σ W H _ s hr fun x Γ1 r1 W1 H1 v j1 hr1 s1 w1 q1 => j1 z σ W1 H1 _ s1 hr1 fun y Γ2 r2 W2 H2 u j2 hr2 s2 w2 q2 => ?_)
  exact hf W2 H2 x y v u _ _ s2.sub (c1.mono w2 q1) q2 rfl fun w W3 H3 G q3 => k _ Γ2 r2 W3 H3 w j2 hr2 (s2.grow G) ((w1.trans w2).trans G.w) q3
theorem et_cmp {op : CmpOp} {c1 : Cod X.K α} {c2 : Cod X.K β} {g : α → β → Bool} {J : Bool → En X.K → Option ρ → Prop} (o : Op2 X (compareOp op) c1 c2 cBool fun x y => some (g x y))
    (h : EX X C Γ a c1 r fun x Γ1 r1 => EX X C Γ1 b c2 r1 fun y Γ2 r2 => J (g x y) Γ2 r2) (hm : behindInMarks op b = false := by first | exact nomark _ | rfl) : ET X C Γ (.Compare a [op] [b] pos) r J := .mk fun z σ W H Q s hr k => by
  obtain ⟨ro, ho, hf⟩ := o
  refine w_pt (pt_cmpR ho pe_w pe_w hm) (h z σ W H _ s hr fun x Γ1 r1 W1 H1 v j1 hr1 s1 w1 q1 => j1 z σ W1 H1 _ s1 hr1 fun y Γ2 r2 W2 H2 u j2 hr2 s2 w2 q2 => ?_)
  exact hf W2 H2 x y v u _ _ s2.sub (c1.mono w2 q1) q2 rfl fun w W3 H3 G q3 => ⟨_, q3, k _ Γ2 r2 W3 H3 j2 hr2 (s2.grow G) ((w1.trans w2).trans G.w)⟩
def mulR (x y : Int) : Option Int := if x.natAbs.log2 + y.natAbs.log2 < 1000000 then some (x * y) else none
def fdivR (x y : Int) : Option Int := if y ≠ 0 ∧ y.natAbs.log2 < 9000 then some (x.fdiv y) else none
def fmodR (x y : Int) : Option Int := if y ≠ 0 then some (x.fmod y) else none
def powR (x y : Int) : Option Int := if 0 ≤ y ∧ y ≤ 1000000 ∧ x.natAbs < 2 ^ 64 then some (x ^ y.toNat) else none
theorem op2I {f : Value → Value → Sem Value} {g : Int → Int → Int} (h : OpR X f (rI0 fun i j => .int (g i j))) : Op2 X f cInt cInt cInt fun x y => some (g x y) :=
  ⟨_, h, fun W H x y v u z Q sb h1 h2 e k => by cases h1; cases h2; cases e; exact ⟨x, y, rfl, rfl, k _ W H (Grow.refl sb) rfl⟩⟩
theorem op2B {f : Value → Value → Sem Value} {g : Int → Int → Bool} (h : OpR X f (rI0 fun i j => .bl (g i j))) : Op2 X f cInt cInt cBool fun x y => some (g x y) :=
  ⟨_, h, fun W H x y v u z Q sb h1 h2 e k => by cases h1; cases h2; cases e; exact ⟨x, y, rfl, rfl, k _ W H (Grow.refl sb) rfl⟩⟩
theorem o_add : Op2 X (binaryOp .Add) cInt cInt cInt fun x y => some (x + y) := op2I op_add
theorem o_sub : Op2 X (binaryOp .Sub) cInt cInt cInt fun x y => some (x - y) := op2I op_sub
theorem o_mul : Op2 X (binaryOp .Mult) cInt cInt cInt mulR := ⟨_, op_mulW, fun W H x y v u z Q sb h1 h2 e k => by
  cases h1; cases h2
  unfold mulR at e
  split at e
  · rename_i hc
    cases e
    exact ⟨x, y, rfl, rfl, hc, k _ W H (Grow.refl sb) rfl⟩
  · cases e⟩
def CDivG (_ j : Int) : Prop := j ≠ 0 ∧ j.natAbs.log2 < 9000
theorem op_fdivG : OpR X (binaryOp .FloorDiv) (rI CDivG fun i j => .int (i.fdiv j)) := opI fun i j _ _ _ _ _ hc q => floordiv_int hc.1 q (.inl (PyProof.noPylong_of_log2 hc.2))
theorem o_fdiv : Op2 X (binaryOp .FloorDiv) cInt cInt cInt fdivR := ⟨_, op_fdivG, fun W H x y v u z Q sb h1 h2 e k => by
  cases h1; cases h2
  unfold fdivR at e
  split at e
  · rename_i hc
    cases e
    exact ⟨x, y, rfl, rfl, hc, k _ W H (Grow.refl sb) rfl⟩
  · cases e⟩
theorem o_mod : Op2 X (binaryOp .Mod) cInt cInt cInt fmodR := ⟨_, op_modN, fun W H x y v u z Q sb h1 h2 e k => by
  cases h1; cases h2
  unfold fmodR at e
  split at e
  · rename_i hc
    cases e
    exact ⟨x, y, rfl, rfl, hc, k _ W H (Grow.refl sb) rfl⟩
  · cases e⟩
theorem o_pow : Op2 X (binaryOp .Pow) cInt cInt cInt powR := ⟨_, op_pow, fun W H x y v u z Q sb h1 h2 e k => by
  cases h1; cases h2
  unfold powR at e
  split at e
  · rename_i hc
    cases e
    exact ⟨x, y, rfl, rfl, hc, k _ W H (Grow.refl sb) rfl⟩
  · cases e⟩
theorem o_lt : Op2 X (compareOp .Lt) cInt cInt cBool fun x y => some (decide (x < y)) := op2B op_lt
theorem o_le : Op2 X (compareOp .LtE) cInt cInt cBool fun x y => some (decide (x ≤ y)) := op2B op_le
theorem o_gt : Op2 X (compareOp .Gt) cInt cInt cBool fun x y => some (decide (y < x)) := op2B op_gt
theorem o_ge : Op2 X (compareOp .GtE) cInt cInt cBool fun x y => some (decide (y ≤ x)) := op2B op_ge
theorem o_eq : Op2 X (compareOp .Eq) cInt cInt cBool fun x y => some (decide (x = y)) := ⟨_, op_eq, fun W H x y v u z Q sb h1 h2 e k => by
  cases h1; cases h2; cases e
  refine ⟨rfl, k _ W H (Grow.refl sb) ?_⟩
  show V.bl _ = V.bl _
  rw [dec_int, Bool.beq_eq_decide_eq]⟩
theorem o_ne : Op2 X (compareOp .NotEq) cInt cInt cBool fun x y => some (!decide (x = y)) := ⟨_, op_ne, fun W H x y v u z Q sb h1 h2 e k => by
  cases h1; cases h2; cases e
  refine ⟨rfl, k _ W H (Grow.refl sb) ?_⟩
  show V.bl _ = V.bl _
  rw [dec_int, Bool.beq_eq_decide_eq]⟩
theorem o_eqS : Op2 X (compareOp .Eq) cStr cStr cBool fun x y => some (decide (x = y)) := ⟨_, op_eq, fun W H x y v u z Q sb h1 h2 e k => by
  cases h1; cases h2; cases e
  refine ⟨rfl, k _ W H (Grow.refl sb) ?_⟩
  show V.bl _ = V.bl _
  rw [dec_str, Bool.beq_eq_decide_eq]⟩
theorem o_neS : Op2 X (compareOp .NotEq) cStr cStr cBool fun x y => some (!decide (x = y)) := ⟨_, op_ne, fun W H x y v u z Q sb h1 h2 e k => by
  cases h1; cases h2; cases e
  refine ⟨rfl, k _ W H (Grow.refl sb) ?_⟩
  show V.bl _ = V.bl _
  rw [dec_str, Bool.beq_eq_decide_eq]⟩
theorem o_eqB : Op2 X (compareOp .Eq) cBool cBool cBool fun x y => some (decide (x = y)) := ⟨_, op_eq, fun W H x y v u z Q sb h1 h2 e k => by
  cases h1; cases h2; cases e
  refine ⟨rfl, k _ W H (Grow.refl sb) ?_⟩
  show V.bl _ = V.bl _
  rw [dec_bl, Bool.beq_eq_decide_eq]⟩
theorem o_neB : Op2 X (compareOp .NotEq) cBool cBool cBool fun x y => some (!decide (x = y)) := ⟨_, op_ne, fun W H x y v u z Q sb h1 h2 e k => by
  cases h1; cases h2; cases e
  refine ⟨rfl, k _ W H (Grow.refl sb) ?_⟩
  show V.bl _ = V.bl _
  rw [dec_bl, Bool.beq_eq_decide_eq]⟩
theorem ex_neg {J : Int → En X.K → Option ρ → Prop} (h : EX X C Γ a cInt r fun x Γ1 r1 => J (-x) Γ1 r1) : EX X C Γ (.UnaryOp .USub a pos) cInt r J := .mk fun z σ W H Q s hr k =>
  w_pe (pe_un un_neg pe_w) (h z σ W H _ s hr fun x Γ1 r1 W1 H1 v j1 hr1 s1 w1 q1 => ⟨x, q1, k _ Γ1 r1 W1 H1 _ j1 hr1 s1 w1 rfl⟩)
/-- is None, is not None, of an optional value -/
theorem et_isN {c : Cod X.K α} {J : Bool → En X.K → Option ρ → Prop} {j p2} (h : EX X C Γ a (cOpt c) r fun x Γ1 r1 => J (x.isNone) Γ1 r1) : ET X C Γ (.Compare a [.Is] [.Constant .none j p2] pos) r J := .mk fun z σ W H Q s hr k =>
  w_pt (pt_cmp (pc_isN pe_w)) (h z σ W H _ s hr fun x Γ1 r1 W1 H1 v j1 hr1 s1 w1 q1 => ⟨_, rfl, by
    have e : decide (v = V.non) = x.isNone := by
      cases x with
      | none => rw [show v = V.non from q1]; rfl
      | some y => exact decide_eq_false q1.1
    rw [e]; exact k _ Γ1 r1 W1 H1 j1 hr1 s1 w1⟩)
theorem et_notN {c : Cod X.K α} {J : Bool → En X.K → Option ρ → Prop} {j p2} (h : EX X C Γ a (cOpt c) r fun x Γ1 r1 => J (x.isSome) Γ1 r1) : ET X C Γ (.Compare a [.IsNot] [.Constant .none j p2] pos) r J := .mk fun z σ W H Q s hr k =>
  w_pt (pt_cmp (pc_notN pe_w)) (h z σ W H _ s hr fun x Γ1 r1 W1 H1 v j1 hr1 s1 w1 q1 => ⟨_, rfl, by
    have e : (!decide (v = V.non)) = x.isSome := by
      cases x with
      | none => rw [show v = V.non from q1]; rfl
      | some y => rw [decide_eq_false q1.1]; rfl
    rw [e]; exact k _ Γ1 r1 W1 H1 j1 hr1 s1 w1⟩)

/-! tests -/
theorem et_val {J : Bool → En X.K → Option ρ → Prop} (h : EX X C Γ e cBool r J) (he : ∀ whole, isTrue e X.env whole = (do let v ← whole; standAt e.pos; holding [v] (truthy v)) := by intro _; rfl) : ET X C Γ e r J := .mk fun z σ W H Q s hr k =>
  w_pt (pt_val pe_w he) (h z σ W H _ s hr fun x Γ1 r1 W1 H1 v j1 hr1 s1 w1 q1 => ⟨x, q1, k _ Γ1 r1 W1 H1 j1 hr1 s1 w1⟩)
theorem et_w {J : Bool → En X.K → Option ρ → Prop} (h : EW X C Γ e r J) : ET X C Γ e r J := .mk fun z σ W H Q s hr k => w_pt pw_w.pt (h z σ W H _ s hr k)
/-- what a part gives, told by a state s -/
def Fin {K : Frag} (C : Ct) {δ : Type} (px : δ → α) (Γs : δ → En K) : α → En K → Option δ → Prop := fun x Γ' r' => ∃ s, r' = some s ∧ px s = x ∧ Wk C Γ' (Γs s)
theorem Fin.use {K : Frag} {C : Ct} {δ : Type} {px : δ → α} {Γs : δ → En K} {x : α} {Γ' : En K} {r' : Option δ} {s : δ} (h : Fin C px Γs x Γ' r') (e : r' = some s) : px s = x ∧ Wk C Γ' (Γs s) := by
  obtain ⟨s', e1, e2, e3⟩ := h
  rw [e] at e1; cases e1
  exact ⟨e2, e3⟩
theorem fin {K : Frag} {C : Ct} {δ : Type} {px : δ → α} {Γs : δ → En K} {Γ' : En K} {s : δ} (w : Wk C Γ' (Γs s)) : Fin C px Γs (px s) Γ' (some s) := ⟨s, rfl, rfl, w⟩
theorem ew_not {J : Bool → En X.K → Option ρ → Prop} (h : ET X C Γ a r fun x Γ1 r1 => J (!x) Γ1 r1) : ET X C Γ (.UnaryOp .Not a pos) r J := .mk fun z σ W H Q s hr k =>
  w_pt (pt_not pt_w) (h z σ W H _ s hr fun x Γ1 r1 W1 H1 j1 hr1 s1 w1 => k _ Γ1 r1 W1 H1 j1 hr1 s1 w1)
theorem ew_and1 {J : Bool → En X.K → Option ρ → Prop} (h : ET X C Γ a r J) : EW X C Γ (.BoolOp .And [a] pos) r J := .mk fun z σ W H Q s hr k => w_pw (pw_and1 pt_w) (h z σ W H _ s hr k)
theorem ew_or1 {J : Bool → En X.K → Option ρ → Prop} (h : ET X C Γ a r J) : EW X C Γ (.BoolOp .Or [a] pos) r J := .mk fun z σ W H Q s hr k => w_pw (pw_or1 pt_w) (h z σ W H _ s hr k)
/-- a and b, b asked only where a is true; δ: what b may change -/
theorem ew_and {δ : Type} {rest : List Expr} {J : Bool → En X.K → Option ρ → Prop} (px : δ → Bool) (Γs : δ → En X.K)
    (h : ET X C Γ a r fun x Γ1 r1 => ∃ m s0 k, r1 = (cond x m (some s0)) >>= k ∧ px s0 = false ∧ Wk C Γ1 (Γs s0) ∧ EW X C Γ1 (.BoolOp .And (b :: rest) pos) m (Fin C px Γs) ∧ ∀ s, J (px s) (Γs s) (k s)) : EW X C Γ (.BoolOp .And (a :: b :: rest) pos) r J := .mk fun z σ W H Q s hr k => by
  refine w_pw (pw_and pt_w pw_w) (h z σ W H _ s hr fun x Γ1 r1 W1 H1 j1 hr1 s1 w1 => ?_)
  obtain ⟨m, s0, k1, e1, p0, g0, hb, jj⟩ := j1
  cases x with
  | true =>
    rw [if_pos rfl]
    rw [e1] at hr1
    have hr1 : m >>= k1 = some z := hr1
    cases hm : m with
    | none => rw [hm] at hr1; cases hr1
    | some t =>
      rw [hm] at hr1
      refine hb t σ W1 H1 _ s1 hm fun x Γ2 r2 W2 H2 j2 hr2 s2 w2 => ?_
      obtain ⟨e3, wk⟩ := j2.use hr2
      obtain ⟨W3, w3, s3⟩ := wk σ W2 H2 s2
      rw [← e3]
      exact k _ _ _ W3 H2 (jj t) hr1 s3 ((w1.trans w2).trans w3)
  | false =>
    rw [if_neg Bool.false_ne_true]
    rw [e1] at hr1
    obtain ⟨W3, w3, s3⟩ := g0 σ W1 H1 s1
    rw [← p0]
    exact k _ _ _ W3 H1 (jj s0) hr1 s3 (w1.trans w3)
theorem ew_or {δ : Type} {rest : List Expr} {J : Bool → En X.K → Option ρ → Prop} (px : δ → Bool) (Γs : δ → En X.K)
    (h : ET X C Γ a r fun x Γ1 r1 => ∃ m s0 k, r1 = (cond x (some s0) m) >>= k ∧ px s0 = true ∧ Wk C Γ1 (Γs s0) ∧ EW X C Γ1 (.BoolOp .Or (b :: rest) pos) m (Fin C px Γs) ∧ ∀ s, J (px s) (Γs s) (k s)) : EW X C Γ (.BoolOp .Or (a :: b :: rest) pos) r J := .mk fun z σ W H Q s hr k => by
  refine w_pw (pw_or pt_w pw_w) (h z σ W H _ s hr fun x Γ1 r1 W1 H1 j1 hr1 s1 w1 => ?_)
  obtain ⟨m, s0, k1, e1, p0, g0, hb, jj⟩ := j1
  cases x with
  | false =>
    rw [if_neg Bool.false_ne_true]
    rw [e1] at hr1
    have hr1 : m >>= k1 = some z := hr1
    cases hm : m with
    | none => rw [hm] at hr1; cases hr1
    | some t =>
      rw [hm] at hr1
      refine hb t σ W1 H1 _ s1 hm fun x Γ2 r2 W2 H2 j2 hr2 s2 w2 => ?_
      obtain ⟨e3, wk⟩ := j2.use hr2
      obtain ⟨W3, w3, s3⟩ := wk σ W2 H2 s2
      rw [← e3]
      exact k _ _ _ W3 H2 (jj t) hr1 s3 ((w1.trans w2).trans w3)
  | true =>
    rw [if_pos rfl]
    rw [e1] at hr1
    obtain ⟨W3, w3, s3⟩ := g0 σ W1 H1 s1
    rw [← p0]
    exact k _ _ _ W3 H1 (jj s0) hr1 s3 (w1.trans w3)
/-- where b changes nothing and always goes: a && b -/
theorem ew_andT {rest : List Expr} {J : Bool → En X.K → Option ρ → Prop}
    (h : ET X C Γ a r fun x Γ1 r1 => ∃ y, EW X C Γ1 (.BoolOp .And (b :: rest) pos) (some y) (Fin C (fun x => x) fun _ => Γ1) ∧ J (x && y) Γ1 r1) : EW X C Γ (.BoolOp .And (a :: b :: rest) pos) r J := .mk fun z σ W H Q s hr k => by
  refine w_pw (pw_and pt_w pw_w) (h z σ W H _ s hr fun x Γ1 r1 W1 H1 j1 hr1 s1 w1 => ?_)
  obtain ⟨y, hb, jj⟩ := j1
  cases x with
  | true =>
    rw [if_pos rfl]
    refine hb y σ W1 H1 _ s1 rfl fun x Γ2 r2 W2 H2 j2 hr2 s2 w2 => ?_
    obtain ⟨e3, wk⟩ := j2.use hr2
    obtain ⟨W3, w3, s3⟩ := wk σ W2 H2 s2
    rw [← e3]
    exact k _ _ _ W3 H2 jj hr1 s3 ((w1.trans w2).trans w3)
  | false =>
    rw [if_neg Bool.false_ne_true]
    exact k _ _ _ W1 H1 jj hr1 s1 w1
theorem ew_orT {rest : List Expr} {J : Bool → En X.K → Option ρ → Prop}
    (h : ET X C Γ a r fun x Γ1 r1 => ∃ y, EW X C Γ1 (.BoolOp .Or (b :: rest) pos) (some y) (Fin C (fun x => x) fun _ => Γ1) ∧ J (x || y) Γ1 r1) : EW X C Γ (.BoolOp .Or (a :: b :: rest) pos) r J := .mk fun z σ W H Q s hr k => by
  refine w_pw (pw_or pt_w pw_w) (h z σ W H _ s hr fun x Γ1 r1 W1 H1 j1 hr1 s1 w1 => ?_)
  obtain ⟨y, hb, jj⟩ := j1
  cases x with
  | false =>
    rw [if_neg Bool.false_ne_true]
    refine hb y σ W1 H1 _ s1 rfl fun x Γ2 r2 W2 H2 j2 hr2 s2 w2 => ?_
    obtain ⟨e3, wk⟩ := j2.use hr2
    obtain ⟨W3, w3, s3⟩ := wk σ W2 H2 s2
    rw [← e3]
    exact k _ _ _ W3 H2 jj hr1 s3 ((w1.trans w2).trans w3)
  | true =>
    rw [if_pos rfl]
    exact k _ _ _ W1 H1 jj hr1 s1 w1
/-- .. as values -/
theorem ex_one {op} {J : Bool → En X.K → Option ρ → Prop} (h : EX X C Γ a cBool r J) : EX X C Γ (.BoolOp op [a] pos) cBool r J := .mk fun z σ W H Q s hr k => w_pe (pe_one pe_w) (h z σ W H _ s hr k)
theorem ex_not {J : Bool → En X.K → Option ρ → Prop} (h : EX X C Γ a cBool r fun x Γ1 r1 => J (!x) Γ1 r1) : EX X C Γ (.UnaryOp .Not a pos) cBool r J := .mk fun z σ W H Q s hr k =>
  w_pe (pe_not pe_w) (h z σ W H _ s hr fun x Γ1 r1 W1 H1 v j1 hr1 s1 w1 q1 => ⟨x, q1, k _ Γ1 r1 W1 H1 _ j1 hr1 s1 w1 rfl⟩)
theorem ex_and {δ : Type} {rest : List Expr} {J : Bool → En X.K → Option ρ → Prop} (px : δ → Bool) (Γs : δ → En X.K)
    (h : EX X C Γ a cBool r fun x Γ1 r1 => ∃ m s0 k, r1 = (cond x m (some s0)) >>= k ∧ px s0 = false ∧ Wk C Γ1 (Γs s0) ∧ EX X C Γ1 (.BoolOp .And (b :: rest) pos) cBool m (Fin C px Γs) ∧ ∀ s, J (px s) (Γs s) (k s)) : EX X C Γ (.BoolOp .And (a :: b :: rest) pos) cBool r J := .mk fun z σ W H Q s hr k => by
  refine w_pe (pe_and pe_w pe_w) (h z σ W H _ s hr fun x Γ1 r1 W1 H1 v j1 hr1 s1 w1 q1 => ⟨x, q1, ?_⟩)
  obtain ⟨m, s0, k1, e1, p0, g0, hb, jj⟩ := j1
  cases x with
  | true =>
    rw [if_pos rfl]
    rw [e1] at hr1
    have hr1 : m >>= k1 = some z := hr1
    cases hm : m with
    | none => rw [hm] at hr1; cases hr1
    | some t =>
      rw [hm] at hr1
      refine hb t σ W1 H1 _ s1 hm fun x Γ2 r2 W2 H2 v2 j2 hr2 s2 w2 q2 => ?_
      obtain ⟨e3, wk⟩ := j2.use hr2
      obtain ⟨W3, w3, s3⟩ := wk σ W2 H2 s2
      rw [← e3] at q2
      exact k _ _ _ W3 H2 v2 (jj t) hr1 s3 ((w1.trans w2).trans w3) q2
  | false =>
    rw [if_neg Bool.false_ne_true]
    rw [e1] at hr1
    obtain ⟨W3, w3, s3⟩ := g0 σ W1 H1 s1
    exact k _ _ _ W3 H1 _ (jj s0) hr1 s3 (w1.trans w3) (by rw [p0]; rfl)
theorem ex_or {δ : Type} {rest : List Expr} {J : Bool → En X.K → Option ρ → Prop} (px : δ → Bool) (Γs : δ → En X.K)
    (h : EX X C Γ a cBool r fun x Γ1 r1 => ∃ m s0 k, r1 = (cond x (some s0) m) >>= k ∧ px s0 = true ∧ Wk C Γ1 (Γs s0) ∧ EX X C Γ1 (.BoolOp .Or (b :: rest) pos) cBool m (Fin C px Γs) ∧ ∀ s, J (px s) (Γs s) (k s)) : EX X C Γ (.BoolOp .Or (a :: b :: rest) pos) cBool r J := .mk fun z σ W H Q s hr k => by
  refine w_pe (pe_or pe_w pe_w) (h z σ W H _ s hr fun x Γ1 r1 W1 H1 v j1 hr1 s1 w1 q1 => ⟨x, q1, ?_⟩)
  obtain ⟨m, s0, k1, e1, p0, g0, hb, jj⟩ := j1
  cases x with
  | false =>
    rw [if_neg Bool.false_ne_true]
    rw [e1] at hr1
    have hr1 : m >>= k1 = some z := hr1
    cases hm : m with
    | none => rw [hm] at hr1; cases hr1
    | some t =>
      rw [hm] at hr1
      refine hb t σ W1 H1 _ s1 hm fun x Γ2 r2 W2 H2 v2 j2 hr2 s2 w2 q2 => ?_
      obtain ⟨e3, wk⟩ := j2.use hr2
      obtain ⟨W3, w3, s3⟩ := wk σ W2 H2 s2
      rw [← e3] at q2
      exact k _ _ _ W3 H2 v2 (jj t) hr1 s3 ((w1.trans w2).trans w3) q2
  | true =>
    rw [if_pos rfl]
    rw [e1] at hr1
    obtain ⟨W3, w3, s3⟩ := g0 σ W1 H1 s1
    exact k _ _ _ W3 H1 _ (jj s0) hr1 s3 (w1.trans w3) (by rw [p0]; rfl)
theorem ex_andT {rest : List Expr} {J : Bool → En X.K → Option ρ → Prop}
    (h : EX X C Γ a cBool r fun x Γ1 r1 => ∃ y, EX X C Γ1 (.BoolOp .And (b :: rest) pos) cBool (some y) (Fin C (fun x => x) fun _ => Γ1) ∧ J (x && y) Γ1 r1) : EX X C Γ (.BoolOp .And (a :: b :: rest) pos) cBool r J := .mk fun z σ W H Q s hr k => by
  refine w_pe (pe_and pe_w pe_w) (h z σ W H _ s hr fun x Γ1 r1 W1 H1 v j1 hr1 s1 w1 q1 => ⟨x, q1, ?_⟩)
  obtain ⟨y, hb, jj⟩ := j1
  cases x with
  | true =>
    rw [if_pos rfl]
    refine hb y σ W1 H1 _ s1 rfl fun x Γ2 r2 W2 H2 v2 j2 hr2 s2 w2 q2 => ?_
    obtain ⟨e3, wk⟩ := j2.use hr2
    obtain ⟨W3, w3, s3⟩ := wk σ W2 H2 s2
    rw [← e3] at q2
    exact k _ _ _ W3 H2 v2 jj hr1 s3 ((w1.trans w2).trans w3) q2
  | false =>
    rw [if_neg Bool.false_ne_true]
    exact k _ _ _ W1 H1 _ jj hr1 s1 w1 rfl
theorem ex_orT {rest : List Expr} {J : Bool → En X.K → Option ρ → Prop}
    (h : EX X C Γ a cBool r fun x Γ1 r1 => ∃ y, EX X C Γ1 (.BoolOp .Or (b :: rest) pos) cBool (some y) (Fin C (fun x => x) fun _ => Γ1) ∧ J (x || y) Γ1 r1) : EX X C Γ (.BoolOp .Or (a :: b :: rest) pos) cBool r J := .mk fun z σ W H Q s hr k => by
  refine w_pe (pe_or pe_w pe_w) (h z σ W H _ s hr fun x Γ1 r1 W1 H1 v j1 hr1 s1 w1 q1 => ⟨x, q1, ?_⟩)
  obtain ⟨y, hb, jj⟩ := j1
  cases x with
  | false =>
    rw [if_neg Bool.false_ne_true]
    refine hb y σ W1 H1 _ s1 rfl fun x Γ2 r2 W2 H2 v2 j2 hr2 s2 w2 q2 => ?_
    obtain ⟨e3, wk⟩ := j2.use hr2
    obtain ⟨W3, w3, s3⟩ := wk σ W2 H2 s2
    rw [← e3] at q2
    exact k _ _ _ W3 H2 v2 jj hr1 s3 ((w1.trans w2).trans w3) q2
  | true =>
    rw [if_pos rfl]
    exact k _ _ _ W1 H1 _ jj hr1 s1 w1 rfl
/-- a if t else b -/
theorem ex_if {δ : Type} {t : Expr} {c : Cod X.K α} {J : α → En X.K → Option ρ → Prop} (px : δ → α) (Γs : δ → En X.K)
    (h : ET X C Γ t r fun x Γ1 r1 => ∃ ma mb k, r1 = (cond x ma mb) >>= k ∧ EX X C Γ1 a c ma (Fin C px Γs) ∧ EX X C Γ1 b c mb (Fin C px Γs) ∧ ∀ s, J (px s) (Γs s) (k s)) : EX X C Γ (.IfExp t a b pos) c r J := .mk fun z σ W H Q s hr k => by
  refine w_pe (pe_ifExp pt_w pe_w pe_w) (h z σ W H _ s hr fun x Γ1 r1 W1 H1 j1 hr1 s1 w1 => ?_)
  obtain ⟨ma, mb, k1, e1, ha, hb, jj⟩ := j1
  rw [e1] at hr1
  have go : ∀ (m : Option δ) (d : Expr), m >>= k1 = some z → EX X C Γ1 d c m (Fin C px Γs) → wpe X d σ H1 Q := fun m d hr1 hd => by
    cases hm : m with
    | none => rw [hm] at hr1; cases hr1
    | some t =>
      rw [hm] at hr1
      refine hd t σ W1 H1 _ s1 hm fun x Γ2 r2 W2 H2 v2 j2 hr2 s2 w2 q2 => ?_
      obtain ⟨e3, wk⟩ := j2.use hr2
      obtain ⟨W3, w3, s3⟩ := wk σ W2 H2 s2
      rw [← e3] at q2
      exact k _ _ _ W3 H2 v2 (jj t) hr1 s3 ((w1.trans w2).trans w3) (c.mono w3 q2)
  cases x with
  | true => rw [if_pos rfl]; exact go ma a hr1 ha
  | false => rw [if_neg Bool.false_ne_true]; exact go mb b hr1 hb
theorem ex_ifT {t : Expr} {c : Cod X.K α} {J : α → En X.K → Option ρ → Prop}
    (h : ET X C Γ t r fun x Γ1 r1 => ∃ y y', EX X C Γ1 a c (some y) (Fin C (fun x => x) fun _ => Γ1) ∧ EX X C Γ1 b c (some y') (Fin C (fun x => x) fun _ => Γ1) ∧ J (cond x y y') Γ1 r1) : EX X C Γ (.IfExp t a b pos) c r J := .mk fun z σ W H Q s hr k => by
  refine w_pe (pe_ifExp pt_w pe_w pe_w) (h z σ W H _ s hr fun x Γ1 r1 W1 H1 j1 hr1 s1 w1 => ?_)
  obtain ⟨y, y', ha, hb, jj⟩ := j1
  have go : ∀ (y : α) (d : Expr), J y Γ1 r1 → EX X C Γ1 d c (some y) (Fin C (fun x => x) fun _ => Γ1) → wpe X d σ H1 Q := fun y d jj hd => by
    refine hd y σ W1 H1 _ s1 rfl fun x Γ2 r2 W2 H2 v2 j2 hr2 s2 w2 q2 => ?_
    obtain ⟨e3, wk⟩ := j2.use hr2
    obtain ⟨W3, w3, s3⟩ := wk σ W2 H2 s2
    rw [← e3] at q2
    exact k _ _ _ W3 H2 v2 jj hr1 s3 ((w1.trans w2).trans w3) (c.mono w3 q2)
  cases x with
  | true => rw [if_pos rfl]; exact go y a jj ha
  | false => rw [if_neg Bool.false_ne_true]; exact go y' b jj hb

/-! rows of arguments, displays -/
theorem ea_nil {J : Unit → En X.K → Option ρ → Prop} (h : J () Γ r) : EA X C Γ [] tc0 r J := .mk fun z σ W H Q s hr k => w_pa pa_nil (k () Γ r W H [] h hr s (Same.refl _) rfl)
theorem ea_one {c : Cod X.K α} {J : α → En X.K → Option ρ → Prop} (h : EX X C Γ e c r J) (hs : starEach [e] X.env = (false, eval e X.env) :: starEach [] X.env := by rfl) : EA X C Γ [e] (tc1 c) r J := .mk fun z σ W H Q s hr k =>
  w_pa (pa_cons pe_w pa_nil hs) (h z σ W H _ s hr fun x Γ1 r1 W1 H1 v j1 hr1 s1 w1 q1 => k x Γ1 r1 W1 H1 [v] j1 hr1 s1 w1 ⟨v, rfl, q1⟩)
theorem ea_cons {c : Cod X.K α} {t : TC X.K β} {J : α × β → En X.K → Option ρ → Prop} (h : EX X C Γ e c r fun x Γ1 r1 => EA X C Γ1 es t r1 fun y Γ2 r2 => J (x, y) Γ2 r2)
    (hs : starEach (e :: es) X.env = (false, eval e X.env) :: starEach es X.env := by rfl) : EA X C Γ (e :: es) (tcC c t) r J := .mk fun z σ W H Q s hr k =>
  w_pa (pa_cons pe_w pa_w hs) (h z σ W H _ s hr fun x Γ1 r1 W1 H1 v j1 hr1 s1 w1 q1 => j1 z σ W1 H1 _ s1 hr1 fun y Γ2 r2 W2 H2 vs j2 hr2 s2 w2 q2 =>
    k (x, y) Γ2 r2 W2 H2 (v :: vs) j2 hr2 s2 (w1.trans w2) ⟨v, vs, rfl, c.mono w2 q1, q2⟩)
theorem el_nil {c : Cod X.K α} {J : List α → En X.K → Option ρ → Prop} (h : J [] Γ r) : EL X C Γ [] c r J := .mk fun z σ W H Q s hr k => w_pa pa_nil (k [] Γ r W H [] h hr s (Same.refl _) .nil rfl)
theorem el_cons {c : Cod X.K α} {J : List α → En X.K → Option ρ → Prop} (h : EX X C Γ e c r fun x Γ1 r1 => EL X C Γ1 es c r1 fun y Γ2 r2 => J (x :: y) Γ2 r2)
    (hs : starEach (e :: es) X.env = (false, eval e X.env) :: starEach es X.env := by rfl) : EL X C Γ (e :: es) c r J := .mk fun z σ W H Q s hr k =>
  w_pa (pa_cons pe_w pa_w hs) (h z σ W H _ s hr fun x Γ1 r1 W1 H1 v j1 hr1 s1 w1 q1 => j1 z σ W1 H1 _ s1 hr1 fun y Γ2 r2 W2 H2 vs j2 hr2 s2 w2 q2 hl =>
    k (x :: y) Γ2 r2 W2 H2 (v :: vs) j2 hr2 s2 (w1.trans w2) (.cons (c.mono w2 q1) q2) (by rw [List.length_cons, List.length_cons, hl]))
theorem ex_tup {t : TC X.K α} {J : α → En X.K → Option ρ → Prop} {x1} (h : EA X C Γ es t r J) (hn : t.n ≤ 1000 := by exact Nat.le_of_ble_eq_true rfl) : EX X C Γ (.Tuple es x1 pos) (cTup t) r J := .mk fun z σ W H Q s hr k =>
  w_pe (pe_tup pa_w) (h z σ W H _ s hr fun x Γ1 r1 W1 H1 vs j1 hr1 s1 w1 q1 => ⟨by rw [t.len q1]; exact Nat.le_trans hn (by decide), fun p hp => by
    have G := Grow.new (o := .tup vs) s1.sub hp
    exact k x Γ1 r1 _ _ _ j1 hr1 (s1.grow G) (w1.trans G.w) ⟨p, vs, rfl, SqT.of upd_same, t.mono G.w q1⟩⟩)
theorem ex_tupS {c : Cod X.K α} {J : List α → En X.K → Option ρ → Prop} {x1} (h : EL X C Γ es c r J) (hn : es.length.ble 1000 = true := by rfl) : EX X C Γ (.Tuple es x1 pos) (cSeq c) r J := .mk fun z σ W H Q s hr k =>
  w_pe (pe_tup pa_w) (h z σ W H _ s hr fun x Γ1 r1 W1 H1 vs j1 hr1 s1 w1 q1 hl => ⟨by rw [q1.length, hl]; exact Nat.le_trans (Nat.le_of_ble_eq_true hn) (by decide), fun p hp => by
    have G := Grow.new (o := .tup vs) s1.sub hp
    exact k x Γ1 r1 _ _ _ j1 hr1 (s1.grow G) (w1.trans G.w) ⟨p, vs, rfl, SqT.of upd_same, q1.mono G.w⟩⟩)
theorem ex_lst {c : Cod X.K α} {J : List α → En X.K → Option ρ → Prop} (h : EL X C Γ es c r J) (hn : es.length.ble 1000 = true := by rfl) : EX X C Γ (.List es pos) (cLst c) r J := .mk fun z σ W H Q s hr k =>
  w_pe (pe_lst pa_w) (h z σ W H _ s hr fun x Γ1 r1 W1 H1 vs j1 hr1 s1 w1 q1 hl => ⟨by rw [q1.length, hl]; exact Nat.le_trans (Nat.le_of_ble_eq_true hn) (by decide), fun p hp => by
    have G := Grow.new (o := .lst vs) s1.sub hp
    exact k x Γ1 r1 _ _ _ j1 hr1 (s1.grow G) (w1.trans G.w) ⟨p, vs, rfl, upd_same, q1.mono G.w⟩⟩)
/-- a new object that nobody owns yet -/
theorem Sat.fresh {σ : L2.St} {W H : Hp} {p : Addr} {o : HO} (s : Sat C Γ σ W H) (hp : H p = none) : Sat C Γ σ W (upd H p o) ∧ W p = none ∧ C.H p = none ∧ Apart Γ σ p ∧ C.a ≠ some p := by
  have wp : W p = none := Same.free s.sub hp
  refine ⟨s.grow ⟨Same.refl _, fun b u e => by rw [upd_ne (ne_of_none e hp)]; exact e, fun b u e => by rw [upd_ne (ne_of_none e wp)]; exact s.sub b u e, fun _ _ h => h⟩, wp, ?_, s.apart hp, fun z => s.lb p (.inr z) hp⟩
  cases q : C.H p with
  | none => rfl
  | some u => exact absurd hp (s.li p (by rw [q]; simp))
theorem ef_lst {c : Cod X.K α} {J : List α → En X.K → Option ρ → Prop} (h : EL X C Γ es c r J) (hn : es.length.ble 1000 = true := by rfl) : EF X C Γ (.List es pos) (lstC c) r J := .mk fun z σ W H Q s hr k =>
  w_pe (pe_lst pa_w) (h z σ W H _ s hr fun x Γ1 r1 W1 H1 vs j1 hr1 s1 w1 q1 hl => ⟨by rw [q1.length, hl]; exact Nat.le_trans (Nat.le_of_ble_eq_true hn) (by decide), fun p hp => by
    obtain ⟨s2, wp, cp, ap, la⟩ := s1.fresh (o := .lst vs) hp
    exact k x Γ1 r1 _ _ p _ j1 hr1 s2 w1 wp cp upd_same ⟨vs, rfl, q1⟩ ap la⟩)
/-- a new list from now on stands still -/
theorem ex_froz {c : Cod X.K α} {J : List α → En X.K → Option ρ → Prop} (h : EF X C Γ e (lstC c) r J) : EX X C Γ e (cLst c) r J := .mk fun z σ W H Q s hr k =>
  h z σ W H _ s hr fun x Γ1 r1 W1 H1 p o j1 hr1 s1 w1 wp cp hp ct ap lap => by
    obtain ⟨vs, rfl, q⟩ := ct
    have w : Same W1 (upd W1 p (.lst vs)) := fun b u e => by rw [upd_ne (ne_of_none e wp)]; exact e
    refine k x Γ1 r1 _ H1 _ j1 hr1 ⟨fun i e he => ?_, s1.ap, fun b u e => ?_, s1.old.trans w, s1.la, s1.fr, s1.li, fun b h1 h2 => ?_, s1.lb⟩ (w1.trans w) ⟨p, vs, rfl, upd_same, q.mono w⟩
    · have t := s1.sl i e he
      cases e with
      | no => trivial
      | im d x => obtain ⟨v, h1, h2⟩ := t; exact ⟨v, h1, d.mono w h2⟩
      | ow d x =>
        obtain ⟨a, ob, f1, f2, f3, f4, f5⟩ := t
        have na : a ≠ p := fun z => by
          subst z
          exact ap i ⟨_, he, rfl⟩ (getD_some f1)
        exact ⟨a, ob, f1, by rw [upd_ne na]; exact f2, f3, f4, d.mono w f5⟩
      | lp => exact t
      | ln d x =>
        obtain ⟨a, ob, f1, f2, f4, f5⟩ := t
        have na : a ≠ p := fun z => by subst z; exact lap f1
        exact ⟨a, ob, f1, by rw [upd_ne na]; exact f2, f4, d.mono w f5⟩
    · by_cases hb : b = p
      · subst hb; rw [upd_same] at e; cases e; exact hp
      · rw [upd_ne hb] at e; exact s1.sub b u e
    · have hb : b ≠ p := fun z => by subst z; exact h1 cp
      rw [upd_ne hb]; exact s1.nw b h1 h2
end
end Ty

set_option maxHeartbeats 4000000
namespace Ty
open PySem PySem.Spec PyProof.Rows L2

section
variable {X : Cx} {C : Ct} {ρ α β γ : Type} {Γ : En X.K} {e a b : Expr} {es : List Expr} {r : Option ρ} {pos p p2 p3 : Pos}
theorem bind_some {δ : Type} {m : Option δ} {k : δ → Option ρ} {z : ρ} (h : m >>= k = some z) : ∃ t, m = some t ∧ k t = some z := by
  cases m with
  | none => cases h
  | some t => exact ⟨t, rfl, h⟩

/-! places -/
theorem ex_ixT {t : TC X.K α} {c : Cod X.K β} {p' : α → β} {i : Nat} {J : β → En X.K → Option ρ → Prop} {j} (n : Nth t i c p') (h : EX X C Γ a (cTup t) r fun x Γ1 r1 => J (p' x) Γ1 r1) : EX X C Γ (.Subscript a (.Constant (.int (i : Int)) j p2) pos) c r J := .mk fun z σ W H Q s hr k =>
  w_pe (pe_ix ix_tup pe_w pe_int (fun _ _ => rfl)) (h z σ W H _ s hr fun x Γ1 r1 W1 H1 v j1 hr1 s1 w1 q1 => by
    obtain ⟨ad, vs, rfl, h2, h3⟩ := q1
    obtain ⟨w, e1, e2⟩ := n.get h3
    exact ⟨ad, vs, (i : Int), w, rfl, rfl, Same.tup s1.sub h2, atI_nat e1, k _ Γ1 r1 W1 H1 w j1 hr1 s1 w1 e2⟩)
theorem row_ixN {c : Cod X.K α} {H : Hp} {vs : List V} {xs : List α} {i : Int} {x : α} (h : Row c H vs xs) (e : atI xs i = some x) : ∃ v, atI vs i = some v ∧ c.rp H v x := by
  unfold atI at e ⊢
  rw [h.length]
  cases q : ixN xs.length i with
  | none => rw [q] at e; cases e
  | some j => rw [q] at e; exact h.get (i := j) e
theorem ex_ixS {c : Cod X.K α} {J : α → En X.K → Option ρ → Prop} (h : EX X C Γ a (cSeq c) r fun x Γ1 r1 => EX X C Γ1 b cInt r1 fun i Γ2 r2 => ∃ k, r2 = atI x i >>= k ∧ ∀ z, J z Γ2 (k z)) (hp : PlainIx b := by exact fun _ _ => rfl) :
    EX X C Γ (.Subscript a b pos) c r J := .mk fun z σ W H Q s hr k =>
  w_pe (pe_ix ix_tup pe_w pe_w hp) (h z σ W H _ s hr fun x Γ1 r1 W1 H1 v j1 hr1 s1 w1 q1 => j1 z σ W1 H1 _ s1 hr1 fun i Γ2 r2 W2 H2 u j2 hr2 s2 w2 q2 => by
    obtain ⟨ad, vs, rfl, h2, h3⟩ := q1
    obtain ⟨k2, e2, j2⟩ := j2
    rw [e2] at hr2
    obtain ⟨t, et, ht⟩ := bind_some hr2
    obtain ⟨w, f1, f2⟩ := row_ixN (h3.mono w2) et
    exact ⟨ad, vs, i, w, rfl, q2, Same.tup s2.sub (Same.tup w2 h2), f1, k t Γ2 _ W2 H2 w (j2 t) ht s2 (w1.trans w2) f2⟩)
theorem ex_ixL {c : Cod X.K α} {J : α → En X.K → Option ρ → Prop} (h : EX X C Γ a (cLst c) r fun x Γ1 r1 => EX X C Γ1 b cInt r1 fun i Γ2 r2 => ∃ k, r2 = atI x i >>= k ∧ ∀ z, J z Γ2 (k z)) (hp : PlainIx b := by exact fun _ _ => rfl) :
    EX X C Γ (.Subscript a b pos) c r J := .mk fun z σ W H Q s hr k =>
  w_pe (pe_ix ix_list pe_w pe_w hp) (h z σ W H _ s hr fun x Γ1 r1 W1 H1 v j1 hr1 s1 w1 q1 => j1 z σ W1 H1 _ s1 hr1 fun i Γ2 r2 W2 H2 u j2 hr2 s2 w2 q2 => by
    obtain ⟨ad, vs, rfl, h2, h3⟩ := q1
    obtain ⟨k2, e2, j2⟩ := j2
    rw [e2] at hr2
    obtain ⟨t, et, ht⟩ := bind_some hr2
    obtain ⟨w, f1, f2⟩ := row_ixN (h3.mono w2) et
    exact ⟨ad, vs, i, w, rfl, q2, SqL.of (s2.sub _ _ (w2 _ _ h2)), f1, k t Γ2 _ W2 H2 w (j2 t) ht s2 (w1.trans w2) f2⟩)
/-- what a name owns, looked at -/
theorem Sat.seen {σ : L2.St} {W H : Hp} {i : Nat} {c : Cel X.K α} {x : α} (s : Sat C Γ σ W H) (h : Γ[i]? = some (.ow c x)) : ∃ ad o, σ[i]? = some (some (.ref ad)) ∧ H ad = some o ∧ c.ct W o x := by
  obtain ⟨ad, o, e1, e2, e3, e4, e5⟩ := s.sl i _ h
  exact ⟨ad, o, getD_some e1, e4, e5⟩
theorem vis_all {n : Str} (hv : Vis X.env.scope n) : Vis X.env.scope n := hv
theorem ex_ixO {c : Cod X.K α} {x : List α} {J : α → En X.K → Option ρ → Prop} {n : Str} (i : Nat)
    (h : EX X C Γ b cInt r fun j Γ1 r1 => Γ1[i]? = some (.ow (lstC c) x) ∧ ∃ k, r1 = atI x j >>= k ∧ ∀ z, J z Γ1 (k z)) (hN : X.N[i]? = some n := by rfl) (hΓ : Γ[i]? = some (.ow (lstC c) x) := by rfl)
    (hv : Vis X.env.scope n := by first | exact Or.inl rfl | exact Or.inr (Or.inl rfl) | exact Or.inr (Or.inr rfl)) (hp : PlainIx b := by exact fun _ _ => rfl) (hd : (n == ("__debug__" : Str)) = false := by decide) (hcd : (n == ("__classdict__" : Str)) = false := by decide) :
    EX X C Γ (.Subscript (.Name n p) b pos) c r J := .mk fun z σ W H Q s hr k =>
  w_pe (pe_ix ix_list (pe_var hN hv hd hcd) pe_w hp) (by
    obtain ⟨ad, o, e1, e4, vs, rfl, rw1⟩ := s.seen hΓ
    refine ⟨_, e1, h z σ W H _ s hr fun j Γ1 r1 W1 H1 v j1 hr1 s1 w1 q1 => ?_⟩
    obtain ⟨g1, k2, e2, j2⟩ := j1
    rw [e2] at hr1
    obtain ⟨t, et, ht⟩ := bind_some hr1
    obtain ⟨ad', o', f1, f4, vs', rfl, rw2⟩ := s1.seen g1
    rw [e1] at f1; cases f1
    obtain ⟨w, y1, y2⟩ := row_ixN rw2 et
    exact ⟨ad, vs', j, w, rfl, q1, SqL.of f4, y1, k t Γ1 _ W1 H1 w (j2 t) ht s1 w1 y2⟩)

/-! built-in functions -/
def CallB (X : Cx) (f : Value) (t : TC X.K α) (c : Cod X.K β) (g : α → Option β) : Prop :=
  ∃ r, CallR X f r ∧ ∀ W H vs x z (Q : VK), Same W H → t.rp W vs x → g x = some z → (∀ w W' H', Grow W H W' H' → c.rp W' w z → Q w H') → r vs H Q
/-- .. that give a new object -/
def CallN (X : Cx) (f : Value) (t : TC X.K α) (c : Cel X.K β) (g : α → Option β) : Prop :=
  ∃ r, CallR X f r ∧ ∀ W H vs x z (Q : VK), Same W H → t.rp W vs x → g x = some z → (∀ l o, H l = none → c.ct W o z → Q (.ref l) (upd H l o)) → r vs H Q
theorem CallB.use {f : Value} {t : TC X.K α} {c : Cod X.K β} {g : α → Option β} {J : β → En X.K → Option ρ → Prop} {rr : List V → Hp → VK → Prop} (hf : ∀ W H vs x z (Q : VK), Same W H → t.rp W vs x → g x = some z → (∀ w W' H', Grow W H W' H' → c.rp W' w z → Q w H') → rr vs H Q)
    (h : EA X C Γ es t r fun x Γ1 r1 => ∃ k, r1 = g x >>= k ∧ ∀ z, J z Γ1 (k z)) {z : ρ} {σ : L2.St} {W H : Hp} {Q : VK} (s : Sat C Γ σ W H) (hr : r = some z)
    (k : ∀ x Γ' r' W' H' v, J x Γ' r' → r' = some z → Sat C Γ' σ W' H' → Same W W' → c.rp W' v x → Q v H') : tCB rr (wpa X es) σ H Q :=
  h z σ W H _ s hr fun x Γ1 r1 W1 H1 vs j1 hr1 s1 w1 q1 => by
    obtain ⟨k2, e2, j2⟩ := j1
    rw [e2] at hr1
    obtain ⟨t, et, ht⟩ := bind_some hr1
    exact hf W1 H1 vs x t _ s1.sub q1 et fun w W2 H2 G q2 => k t Γ1 _ W2 H2 w (j2 t) ht (s1.grow G) (w1.trans G.w) q2
theorem CallN.use {f : Value} {t : TC X.K α} {c : Cel X.K β} {g : α → Option β} {J : β → En X.K → Option ρ → Prop} {rr : List V → Hp → VK → Prop} (hf : ∀ W H vs x z (Q : VK), Same W H → t.rp W vs x → g x = some z → (∀ l o, H l = none → c.ct W o z → Q (.ref l) (upd H l o)) → rr vs H Q)
    (h : EA X C Γ es t r fun x Γ1 r1 => ∃ k, r1 = g x >>= k ∧ ∀ z, J z Γ1 (k z)) {z : ρ} {σ : L2.St} {W H : Hp} {Q : VK} (s : Sat C Γ σ W H) (hr : r = some z)
    (k : ∀ x Γ' r' W' H' p o, J x Γ' r' → r' = some z → Sat C Γ' σ W' H' → Same W W' → W' p = none → C.H p = none → H' p = some o → c.ct W' o x → Apart Γ' σ p → C.a ≠ some p → Q (.ref p) H') : tCB rr (wpa X es) σ H Q :=
  h z σ W H _ s hr fun x Γ1 r1 W1 H1 vs j1 hr1 s1 w1 q1 => by
    obtain ⟨k2, e2, j2⟩ := j1
    rw [e2] at hr1
    obtain ⟨t, et, ht⟩ := bind_some hr1
    refine hf W1 H1 vs x t _ s1.sub q1 et fun l o hl ct => ?_
    obtain ⟨s2, wl, cl, ap, la⟩ := s1.fresh (o := o) hl
    exact k t Γ1 _ W1 _ l o (j2 t) ht s2 w1 wl cl upd_same ct ap la
variable {x : Str} {id T : String}
theorem ex_callB {t : TC X.K α} {c : Cod X.K β} {g : α → Option β} {J : β → En X.K → Option ρ → Prop} (o : CallB X (.builtin id) t c g) (hm : X.mg x = none) (hv : bootBuiltins x = some (.builtin id))
    (h : EA X C Γ (e :: es) t r fun x Γ1 r1 => ∃ k, r1 = g x >>= k ∧ ∀ z, J z Γ1 (k z)) (hg : Gl X x := by rfl) (hn : x ≠ "__name__" := by decide) (hdb : (x == ("__debug__" : Str)) = false := by decide)
    (he : starEach (e :: es) X.env = (false, eval e X.env) :: starEach es X.env := by rfl) (hpl : (backTo pos (starEach es X.env)).any (·.1) = false := by rfl) : EX X C Γ (.Call (.Name x p) (e :: es) [] pos) c r J := .mk fun z σ W H Q s hr k => by
  obtain ⟨rr, hc, hf⟩ := o
  exact w_pe (pe_callB hc hg hm hv pa_w hn hdb he hpl) (CallB.use (f := .builtin id) hf h s hr k)
theorem ex_callT {t : TC X.K α} {c : Cod X.K β} {g : α → Option β} {J : β → En X.K → Option ρ → Prop} (o : CallB X (.type T) t c g) (hm : X.mg x = none) (hv : bootBuiltins x = some (.type T))
    (h : EA X C Γ (e :: es) t r fun x Γ1 r1 => ∃ k, r1 = g x >>= k ∧ ∀ z, J z Γ1 (k z)) (hg : Gl X x := by rfl) (hn : x ≠ "__name__" := by decide) (hdb : (x == ("__debug__" : Str)) = false := by decide)
    (he : starEach (e :: es) X.env = (false, eval e X.env) :: starEach es X.env := by rfl) (hpl : (backTo pos (starEach es X.env)).any (·.1) = false := by rfl) : EX X C Γ (.Call (.Name x p) (e :: es) [] pos) c r J := .mk fun z σ W H Q s hr k => by
  obtain ⟨rr, hc, hf⟩ := o
  exact w_pe (pe_callTy hc hg hm hv pa_w hn hdb he hpl) (CallB.use (f := .type T) hf h s hr k)
theorem ex_callF {t : TC X.K α} {c : Cod X.K β} {g : α → Option β} {J : β → En X.K → Option ρ → Prop} (o : CallB X (.builtin id) t c g) (hm : X.mg x = some (.builtin id))
    (h : EA X C Γ (e :: es) t r fun x Γ1 r1 => ∃ k, r1 = g x >>= k ∧ ∀ z, J z Γ1 (k z)) (hg : Gl X x := by rfl) (hdb : (x == ("__debug__" : Str)) = false := by decide)
    (he : starEach (e :: es) X.env = (false, eval e X.env) :: starEach es X.env := by rfl) (hpl : (backTo pos (starEach es X.env)).any (·.1) = false := by rfl) : EX X C Γ (.Call (.Name x p) (e :: es) [] pos) c r J := .mk fun z σ W H Q s hr k => by
  obtain ⟨rr, hc, hf⟩ := o
  exact w_pe (pe_callBfun hc hg hm pa_w hdb he hpl) (CallB.use (f := .builtin id) hf h s hr k)
theorem ef_callB {t : TC X.K α} {c : Cel X.K β} {g : α → Option β} {J : β → En X.K → Option ρ → Prop} (o : CallN X (.builtin id) t c g) (hm : X.mg x = none) (hv : bootBuiltins x = some (.builtin id))
    (h : EA X C Γ (e :: es) t r fun x Γ1 r1 => ∃ k, r1 = g x >>= k ∧ ∀ z, J z Γ1 (k z)) (hg : Gl X x := by rfl) (hn : x ≠ "__name__" := by decide) (hdb : (x == ("__debug__" : Str)) = false := by decide)
    (he : starEach (e :: es) X.env = (false, eval e X.env) :: starEach es X.env := by rfl) (hpl : (backTo pos (starEach es X.env)).any (·.1) = false := by rfl) : EF X C Γ (.Call (.Name x p) (e :: es) [] pos) c r J := .mk fun z σ W H Q s hr k => by
  obtain ⟨rr, hc, hf⟩ := o
  exact w_pe (pe_callB hc hg hm hv pa_w hn hdb he hpl) (CallN.use (f := .builtin id) hf h s hr k)
theorem ef_callT {t : TC X.K α} {c : Cel X.K β} {g : α → Option β} {J : β → En X.K → Option ρ → Prop} (o : CallN X (.type T) t c g) (hm : X.mg x = none) (hv : bootBuiltins x = some (.type T))
    (h : EA X C Γ (e :: es) t r fun x Γ1 r1 => ∃ k, r1 = g x >>= k ∧ ∀ z, J z Γ1 (k z)) (hg : Gl X x := by rfl) (hn : x ≠ "__name__" := by decide) (hdb : (x == ("__debug__" : Str)) = false := by decide)
    (he : starEach (e :: es) X.env = (false, eval e X.env) :: starEach es X.env := by rfl) (hpl : (backTo pos (starEach es X.env)).any (·.1) = false := by rfl) : EF X C Γ (.Call (.Name x p) (e :: es) [] pos) c r J := .mk fun z σ W H Q s hr k => by
  obtain ⟨rr, hc, hf⟩ := o
  exact w_pe (pe_callTy hc hg hm hv pa_w hn hdb he hpl) (CallN.use (f := .type T) hf h s hr k)

def absI (i : Int) : Int := if i < 0 then -i else i
def maxI (i j : Int) : Int := if j > i then j else i
def minI (i j : Int) : Int := if j < i then j else i
theorem b_abs : CallB X (.builtin "abs") (tc1 cInt) cInt fun x => some (absI x) := ⟨_, call_abs, fun W H vs x z Q sb h e k => by
  obtain ⟨v, rfl, h⟩ := h; cases h; cases e; exact ⟨x, rfl, k _ W H (Grow.refl sb) rfl⟩⟩
theorem b_int : CallB X (.type "int") (tc1 cInt) cInt fun x => some x := ⟨_, call_int1, fun W H vs x z Q sb h e k => by
  obtain ⟨v, rfl, h⟩ := h; cases h; cases e; exact .inl ⟨x, rfl, k _ W H (Grow.refl sb) rfl⟩⟩
theorem b_max (hc : X.calm = true) : CallB X (.builtin "max") (tcC cInt (tc1 cInt)) cInt fun x => some (maxI x.1 x.2) := ⟨_, call_max2 hc, fun W H vs x z Q sb h e k => by
  obtain ⟨v, r, rfl, h, v2, rfl, h2⟩ := h; cases h; cases h2; cases e; exact ⟨x.1, x.2, rfl, k _ W H (Grow.refl sb) rfl⟩⟩
theorem b_min (hc : X.calm = true) : CallB X (.builtin "min") (tcC cInt (tc1 cInt)) cInt fun x => some (minI x.1 x.2) := ⟨_, call_min2 hc, fun W H vs x z Q sb h e k => by
  obtain ⟨v, r, rfl, h, v2, rfl, h2⟩ := h; cases h; cases h2; cases e; exact ⟨x.1, x.2, rfl, k _ W H (Grow.refl sb) rfl⟩⟩
theorem b_lenS {c : Cod X.K α} : CallB X (.builtin "len") (tc1 (cSeq c)) cInt fun x => some (x.length : Int) := ⟨_, call_len_seq, fun W H vs x z Q sb h e k => by
  obtain ⟨v, rfl, ad, ws, rfl, h2, h3⟩ := h; cases e; rw [← h3.length] at k; exact ⟨ad, ws, rfl, .inr (Same.tup sb h2), k _ W H (Grow.refl sb) rfl⟩⟩
theorem b_lenL {c : Cod X.K α} : CallB X (.builtin "len") (tc1 (cLst c)) cInt fun x => some (x.length : Int) := ⟨_, call_len_seq, fun W H vs x z Q sb h e k => by
  obtain ⟨v, rfl, ad, ws, rfl, h2, h3⟩ := h; cases e; rw [← h3.length] at k; exact ⟨ad, ws, rfl, .inl (SqL.of (sb _ _ h2)), k _ W H (Grow.refl sb) rfl⟩⟩
def U.len : U → Option Int
  | .tup l => some l.length
  | .lst l => some l.length
  | _ => none
theorem b_lenU : CallB X (.builtin "len") (tc1 cU) cInt U.len := ⟨_, call_len_seq, fun W H vs x z Q sb h e k => by
  obtain ⟨v, rfl, h⟩ := h
  cases x with
  | tup l => obtain ⟨ad, ws, rfl, h2, h3⟩ := h; cases e; rw [← h3.length] at k; exact ⟨ad, ws, rfl, .inr (Same.tup sb h2), k _ W H (Grow.refl sb) rfl⟩
  | lst l => obtain ⟨ad, ws, rfl, h2, h3⟩ := h; cases e; rw [← h3.length] at k; exact ⟨ad, ws, rfl, .inl (SqL.of (sb _ _ h2)), k _ W H (Grow.refl sb) rfl⟩
  | _ => cases e⟩
theorem Row.bls {K : Frag} {H : Hp} : ∀ {vs : List V} {xs : List Bool}, Row (cBool (K := K)) H vs xs → vs = xs.map V.bl
  | _, _, .nil => rfl
  | _, _, .cons h t => by cases h; rw [Row.bls t]; rfl
theorem Row.ints {K : Frag} {H : Hp} : ∀ {vs : List V} {xs : List Int}, Row (cInt (K := K)) H vs xs → vs = xs.map V.int
  | _, _, .nil => rfl
  | _, _, .cons h t => by cases h; rw [Row.ints t]; rfl
theorem Row.strs {K : Frag} {H : Hp} : ∀ {vs : List V} {xs : List Str}, Row (cStr (K := K)) H vs xs → vs = xs.map V.str
  | _, _, .nil => rfl
  | _, _, .cons h t => by cases h; rw [Row.strs t]; rfl
theorem Row.of_ints {K : Frag} {H : Hp} : ∀ (xs : List Int), Row (cInt (K := K)) H (xs.map V.int) xs
  | [] => .nil
  | x :: xs => .cons rfl (Row.of_ints xs)
theorem b_all (hc : X.calm = true) : CallB X (.builtin "all") (tc1 (cLst cBool)) cBool fun x => some (x.all fun b => b) := ⟨_, cr_all hc, fun W H vs x z Q sb h e k => by
  obtain ⟨v, rfl, ad, ws, rfl, h2, h3⟩ := h; cases e; rw [h3.bls] at h2; exact ⟨ad, x, rfl, SqL.of (sb _ _ h2), k _ W H (Grow.refl sb) rfl⟩⟩
theorem b_any (hc : X.calm = true) : CallB X (.builtin "any") (tc1 (cLst cBool)) cBool fun x => some (x.any fun b => b) := ⟨_, cr_any hc, fun W H vs x z Q sb h e k => by
  obtain ⟨v, rfl, ad, ws, rfl, h2, h3⟩ := h; cases e; rw [h3.bls] at h2; exact ⟨ad, x, rfl, SqL.of (sb _ _ h2), k _ W H (Grow.refl sb) rfl⟩⟩
theorem b_sum (hc : X.calm = true) : CallB X (.builtin "sum") (tc1 (cLst cInt)) cInt fun x => some x.sum := ⟨_, cr_sum hc, fun W H vs x z Q sb h e k => by
  obtain ⟨v, rfl, ad, ws, rfl, h2, h3⟩ := h; cases e; rw [h3.ints] at h2; exact ⟨ad, x, rfl, SqL.of (sb _ _ h2), k _ W H (Grow.refl sb) rfl⟩⟩
theorem b_tupL {c : Cod X.K α} : CallB X (.type "tuple") (tc1 (cLst c)) (cSeq c) fun x => some x := ⟨_, call_tuple_of, fun W H vs x z Q sb h e k => by
  obtain ⟨v, rfl, ad, ws, rfl, h2, h3⟩ := h; cases e
  exact ⟨ad, ws, rfl, .inl ⟨SqL.of (sb _ _ h2), fun l hl => k _ _ _ (Grow.new sb hl) ⟨l, ws, rfl, SqT.of upd_same, h3.mono (Grow.new sb hl).w⟩⟩⟩⟩
theorem b_tupS {c : Cod X.K α} : CallB X (.type "tuple") (tc1 (cSeq c)) (cSeq c) fun x => some x := ⟨_, call_tuple_of, fun W H vs x z Q sb h e k => by
  obtain ⟨v, rfl, ad, ws, rfl, h2, h3⟩ := h; cases e
  exact ⟨ad, ws, rfl, .inr ⟨Same.tup sb h2, k _ W H (Grow.refl sb) ⟨ad, ws, rfl, h2, h3⟩⟩⟩⟩
theorem n_listL {c : Cod X.K α} : CallN X (.type "list") (tc1 (cLst c)) (lstC c) fun x => some x := ⟨_, call_list_of, fun W H vs x z Q sb h e k => by
  obtain ⟨v, rfl, ad, ws, rfl, h2, h3⟩ := h; cases e
  exact ⟨ad, ws, rfl, .inl (SqL.of (sb _ _ h2)), fun l hl => k l _ hl ⟨ws, rfl, h3⟩⟩⟩
theorem n_listS {c : Cod X.K α} : CallN X (.type "list") (tc1 (cSeq c)) (lstC c) fun x => some x := ⟨_, call_list_of, fun W H vs x z Q sb h e k => by
  obtain ⟨v, rfl, ad, ws, rfl, h2, h3⟩ := h; cases e
  exact ⟨ad, ws, rfl, .inr (Same.tup sb h2), fun l hl => k l _ hl ⟨ws, rfl, h3⟩⟩⟩
/-- the script: ints, read only -/
def cScr {K : Frag} : Cod K (List Int) := ⟨fun H v x => ∃ a, v = .ref a ∧ SqL K H a (x.map V.int), fun _ => .opq, fun e ⟨a, h, q⟩ => ⟨a, h, Same.seq e q⟩, fun _ => trivial⟩
theorem n_listZ : CallN X (.type "list") (tc1 cScr) (lstC cInt) fun x => some x := ⟨_, call_list_of, fun W H vs x z Q sb h e k => by
  obtain ⟨v, rfl, ad, rfl, h2⟩ := h; cases e
  exact ⟨ad, _, rfl, .inl (Same.seq sb h2), fun l hl => k l _ hl ⟨_, rfl, Row.of_ints x⟩⟩⟩
def gcdI (a b : Int) : Int := ((Nat.gcd a.natAbs b.natAbs : Nat) : Int)
theorem b_gcd : CallB X (.builtin "math.gcd") (tcC cInt (tc1 cInt)) cInt fun x => some (gcdI x.1 x.2) := ⟨_, cr_gcd, fun W H vs x z Q sb h e k => by
  obtain ⟨v, r, rfl, h, v2, rfl, h2⟩ := h; cases h; cases h2; cases e; exact ⟨x.1, x.2, rfl, k _ W H (Grow.refl sb) rfl⟩⟩
def CLcm (a b : Int) : Prop := a.natAbs.log2 < 13000 ∧ b.natAbs.log2 < 13000
instance (a b : Int) : Decidable (CLcm a b) := inferInstanceAs (Decidable (_ ∧ _))
def lcmR (a b : Int) : Option Int := if CLcm a b then some ((Nat.lcm a.natAbs b.natAbs : Nat) : Int) else none
theorem log2_mul_lt {a b : Nat} {n : Nat} (ha : a.log2 < n) (hb : b.log2 < n) : (a * b).log2 < n + n := by
  rcases Nat.eq_zero_or_pos (a * b) with h | h
  · rw [h, Nat.log2_zero]; omega
  · have h1 : a ≠ 0 := fun e => by subst e; simp at h
    have h2 : b ≠ 0 := fun e => by subst e; simp at h
    refine (Nat.log2_lt (by omega)).mpr ?_
    rw [Nat.pow_add]
    exact Nat.mul_lt_mul'' ((Nat.log2_lt h1).mp ha) ((Nat.log2_lt h2).mp hb)
theorem log2_mono {a b : Nat} (h : a ≤ b) : a.log2 ≤ b.log2 := by
  rcases Nat.eq_zero_or_pos a with e | e
  · subst e; rw [Nat.log2_zero]; exact Nat.zero_le _
  · have hb : b ≠ 0 := by omega
    have h1 := (Nat.log2_lt (n := b) (k := b.log2 + 1) hb).mp (Nat.lt_succ_self _)
    exact Nat.le_of_lt_succ ((Nat.log2_lt (by omega)).mpr (Nat.lt_of_le_of_lt h h1))
theorem cr_lcm : CallR X (.builtin "math.lcm") (fun vs H Q => ∃ a b : Int, vs = [.int a, .int b] ∧ CLcm a b ∧ Q (.int ((Nat.lcm a.natAbs b.natAbs : Nat) : Int)) H) := by
  intro pins s σ H vs us Q I r h
  obtain ⟨a, b, rfl, ⟨l1, l2⟩, q⟩ := h
  obtain ⟨t, u, rfl⟩ := Vals.int2 r
  have m1 : (max 1 a.natAbs).log2 < 13000 := by
    rcases Nat.le_total 1 a.natAbs with h | h
    · rw [Nat.max_eq_right h]; exact l1
    · rw [Nat.max_eq_left h]; decide
  have m2 : (max a.natAbs b.natAbs).log2 < 13000 := by
    rcases Nat.le_total a.natAbs b.natAbs with h | h
    · rw [Nat.max_eq_right h]; exact l2
    · rw [Nat.max_eq_left h]; exact l1
  have e1 : (Nat.lcm 1 a.natAbs).lcm b.natAbs = Nat.lcm a.natAbs b.natAbs := by rw [PySem.W.mc_lcm_one]
  have l4 : (((((Nat.lcm 1 a.natAbs).lcm b.natAbs : Nat) : Int)).natAbs).log2 < bitsLine := by
    rw [e1, Int.natAbs_natCast]
    exact Nat.lt_of_le_of_lt (log2_mono (PySem.W.mc_lcm_le _ _)) (Nat.lt_trans (log2_mul_lt l1 l2) (by decide))
  refine call_function_meets PySem.W.MGF.kind_lcm PySem.W.MGF.plain_lcm PySem.W.MGF.entry_lcm (PySem.W.MGF.args_lcm _ _) (PySem.W.mg_run_lcm a t b u (by omega) (by omega) l4).meets ?_
  rw [e1]
  exact ⟨.int _, H, I.tok _, ⟨_, rfl⟩, q⟩
theorem b_lcm : CallB X (.builtin "math.lcm") (tcC cInt (tc1 cInt)) cInt fun x => lcmR x.1 x.2 := ⟨_, cr_lcm, fun W H vs x z Q sb h e k => by
  obtain ⟨v, r, rfl, h, v2, rfl, h2⟩ := h; cases h; cases h2
  have e : lcmR x.1 x.2 = some z := e
  unfold lcmR at e
  split at e
  · rename_i hc
    cases e; exact ⟨x.1, x.2, rfl, hc, k _ W H (Grow.refl sb) rfl⟩
  · cases e⟩
/-- len of what a name owns -/
theorem ex_lenO {c : Cod X.K α} {y : List α} {J : Int → En X.K → Option ρ → Prop} {n : Str} (i : Nat) (hm : X.mg "len" = none) (hJ : J (y.length : Int) Γ r) (hN : X.N[i]? = some n := by rfl) (hΓ : Γ[i]? = some (.ow (lstC c) y) := by rfl)
    (hv : Vis X.env.scope n := by first | exact Or.inl rfl | exact Or.inr (Or.inl rfl) | exact Or.inr (Or.inr rfl)) (hd : (n == ("__debug__" : Str)) = false := by decide) (hcd : (n == ("__classdict__" : Str)) = false := by decide) (hg : Gl X "len" := by rfl)
    (he : starEach [.Name n p2] X.env = (false, eval (.Name n p2) X.env) :: starEach [] X.env := by rfl) : EX X C Γ (.Call (.Name "len" p) [.Name n p2] [] pos) cInt r J := .mk fun z σ W H Q s hr k =>
  w_pe (pe_callB call_len_seq hg hm PySem.boot_len (pa_cons (pe_var hN hv hd hcd) pa_nil) (by decide) (by decide) he rfl) (by
    obtain ⟨ad, o, e1, e4, vs, rfl, rw1⟩ := s.seen hΓ
    refine ⟨_, e1, ad, vs, rfl, .inl (SqL.of e4), ?_⟩
    rw [rw1.length]
    exact k _ Γ r W H _ hJ hr s (Same.refl _) rfl)

/-! isinstance -/
def isU : String → U → Option Bool
  | _, .opq => none
  | "tuple", .tup _ => some true
  | "list", .lst _ => some true
  | "str", .str _ => some true
  | "int", .int _ => some true
  | "int", .bl _ => some true
  | "bool", .bl _ => some true
  | _, _ => some false
def tyU : U → String
  | .non => "NoneType" | .bl _ => "bool" | .int _ => "int" | .str _ => "str" | .tup _ => "tuple" | .lst _ => "list" | .opq => ""
theorem tyx_of {K : Frag} {W H : Hp} (sb : Same W H) {u : U} {v : V} (hn : u ≠ .opq) (h : rpU K W u v) : TyX K H v (.type (tyU u)) := by
  cases u with
  | non => cases h; exact .base .non
  | bl b => cases h; exact .base (.bl b)
  | int i => cases h; exact .base (.int i)
  | str s => cases h; exact .base (.str s)
  | tup l =>
    obtain ⟨a, vs, rfl, h2, _⟩ := h
    rcases Same.tup sb h2 with (h | ⟨o, h⟩) | ⟨o, its, n, hk, hc, _⟩
    · exact .base (.tup h)
    · exact .fTuple h
    · exact .kTuple hk hc
  | lst l =>
    obtain ⟨a, vs, rfl, h2, _⟩ := h
    exact .base (.lst (sb _ _ h2))
  | opq => exact absurd rfl hn
theorem isU_kit {T : String} (hT : T = "tuple" ∨ T = "list" ∨ T = "str" ∨ T = "int" ∨ T = "bool") (u : U) (hn : u ≠ .opq) : kitB (tyU u) T = isU T u := by
  rcases hT with rfl | rfl | rfl | rfl | rfl <;> cases u <;> first | exact absurd rfl hn | rfl | decide +kernel
theorem ex_isi {J : Bool → En X.K → Option ρ → Prop} (hm : X.mg "isinstance" = none) (hm2 : X.mg (T : Str) = none) (hv2 : bootBuiltins (T : Str) = some (.type T)) (h : EX X C Γ a cU r fun x Γ1 r1 => ∃ k, r1 = isU T x >>= k ∧ ∀ z, J z Γ1 (k z))
    (hT : T = "tuple" ∨ T = "list" ∨ T = "str" ∨ T = "int" ∨ T = "bool" := by decide) (hg : Gl X "isinstance" := by rfl) (hg2 : Gl X (T : Str) := by rfl) (hn2 : (T : Str) ≠ "__name__" := by decide) (hd2 : ((T : Str) == ("__debug__" : Str)) = false := by decide)
    (he : starEach [a, .Name (T : Str) p2] X.env = (false, eval a X.env) :: starEach [.Name (T : Str) p2] X.env := by rfl) (he2 : starEach [.Name (T : Str) p2] X.env = (false, eval (.Name (T : Str) p2) X.env) :: starEach [] X.env := by rfl)
    (hpl : (backTo pos (starEach [.Name (T : Str) p2] X.env)).any (·.1) = false := by rfl) : EX X C Γ (.Call (.Name "isinstance" p) [a, .Name (T : Str) p2] [] pos) cBool r J := .mk fun z σ W H Q s hr k =>
  w_pe (pe_callB call_isi hg hm boot_isinstance (pa_cons pe_w (pa_cons (pe_bltn (v := .ty T) hg2 hm2 hv2 rfl hn2 hd2) pa_nil he2) he) (by decide) (by decide) he hpl)
    (h z σ W H _ s hr fun x Γ1 r1 W1 H1 v j1 hr1 s1 w1 q1 => by
      obtain ⟨k2, e2, j2⟩ := j1
      rw [e2] at hr1
      obtain ⟨t, et, ht⟩ := bind_some hr1
      have hn : x ≠ .opq := fun z => by
        subst z
        rcases hT with rfl | rfl | rfl | rfl | rfl <;> cases et
      exact ⟨v, .ty T, _, _, t, rfl, .ty T, tyx_of s1.sub hn q1, kit_ty ((isU_kit hT x hn).trans et), k _ Γ1 _ W1 H1 _ (j2 t) ht s1 w1 rfl⟩)

/-! defs -/
def spP (K : Frag) (t : TC K α) (f : α → Option β) (c : Cod K β) : Sp := fun vs H Q _ => ∃ W x, Same W H ∧ t.rp W vs x ∧ ∃ z, f x = some z ∧ ∀ W' H' v, Grow W H W' H' → c.rp W' v z → Q v H'
/-- a def that hands back a new object -/
def spN (K : Frag) (t : TC K α) (f : α → Option β) (c : Cel K β) : Sp := fun vs H Q _ => ∃ W x, Same W H ∧ t.rp W vs x ∧ ∃ z, f x = some z ∧ ∀ W' H' p o, Grow W H W' H' → W' p = none → H p = none → H' p = some o → c.ct W' o z → Q (.ref p) H'
/-- what stands at a name of the module -/
structure FnP (P : Program) (w : World) (K : Frag) (mg : Str → Option Value) (base : Heap) (x : Str) (k : Nat) (ps : List Str) (sp : Sp) : Prop where
  ex : ∃ f fd, mg x = some (.ref f) ∧ PySem.W.keepIn K (.ref f) = true ∧ Binds K fd ps [] ∧ FnOk P w K mg base CX0 k f fd ps sp
theorem FnP.mono {P : Program} {w : World} {K : Frag} {mg : Str → Option Value} {base : Heap} {x : Str} {k k' : Nat} {ps : List Str} {sp : Sp} (F : FnP P w K mg base x k ps sp) (h : k ≤ k') : FnP P w K mg base x k' ps sp := by
  obtain ⟨f, fd, a, b, c, d⟩ := F.ex
  exact ⟨f, fd, a, b, c, d.mono h⟩
theorem ex_call {t : TC X.K α} {c : Cod X.K β} {f : α → Option β} {J : β → En X.K → Option ρ → Prop} {k : Nat} {ps : List Str} (F : FnP X.prog X.w X.K X.mg X.base x k ps (spP X.K t f c)) (hr : Room k X.A)
    (h : EA X C Γ (e :: es) t r fun x Γ1 r1 => ∃ k, r1 = f x >>= k ∧ ∀ z, J z Γ1 (k z)) (hg : Gl X x := by rfl) (hdb : (x == ("__debug__" : Str)) = false := by decide)
    (he : starEach (e :: es) X.env = (false, eval e X.env) :: starEach es X.env := by rfl) (hpl : (backTo pos (starEach es X.env)).any (·.1) = false := by rfl) : EX X C Γ (.Call (.Name x p) (e :: es) [] pos) c r J := .mk fun z σ W H Q s hrr kk => by
  obtain ⟨fa, fd, h1, h2, h3, h4⟩ := F.ex
  refine w_pe (pe_call h4 hr hg h1 h2 h3 .nil pass0 pa_w hdb he hpl) (h z σ W H _ s hrr fun y Γ1 r1 W1 H1 vs j1 hr1 s1 w1 q1 => ?_)
  obtain ⟨k2, e2, j2⟩ := j1
  rw [e2] at hr1
  obtain ⟨t2, et, ht⟩ := bind_some hr1
  rw [List.append_nil]
  exact ⟨W1, y, s1.sub, q1, t2, et, fun W2 H2 v G q2 => kk t2 Γ1 _ W2 H2 v (j2 t2) ht (s1.grow G) (w1.trans G.w) q2⟩
theorem ef_call {t : TC X.K α} {c : Cel X.K β} {f : α → Option β} {J : β → En X.K → Option ρ → Prop} {k : Nat} {ps : List Str} (F : FnP X.prog X.w X.K X.mg X.base x k ps (spN X.K t f c)) (hr : Room k X.A)
    (h : EA X C Γ (e :: es) t r fun x Γ1 r1 => ∃ k, r1 = f x >>= k ∧ ∀ z, J z Γ1 (k z)) (hg : Gl X x := by rfl) (hdb : (x == ("__debug__" : Str)) = false := by decide)
    (he : starEach (e :: es) X.env = (false, eval e X.env) :: starEach es X.env := by rfl) (hpl : (backTo pos (starEach es X.env)).any (·.1) = false := by rfl) : EF X C Γ (.Call (.Name x p) (e :: es) [] pos) c r J := .mk fun z σ W H Q s hrr kk => by
  obtain ⟨fa, fd, h1, h2, h3, h4⟩ := F.ex
  refine w_pe (pe_call h4 hr hg h1 h2 h3 .nil pass0 pa_w hdb he hpl) (h z σ W H _ s hrr fun y Γ1 r1 W1 H1 vs j1 hr1 s1 w1 q1 => ?_)
  obtain ⟨k2, e2, j2⟩ := j1
  rw [e2] at hr1
  obtain ⟨t2, et, ht⟩ := bind_some hr1
  rw [List.append_nil]
  refine ⟨W1, y, s1.sub, q1, t2, et, fun W2 H2 p o G wp hp h2p ct => ?_⟩
  have cp : C.H p = none := by
    cases q : C.H p with
    | none => rfl
    | some u => exact absurd hp (s1.li p (by rw [q]; simp))
  exact kk t2 Γ1 _ W2 H2 p o (j2 t2) ht (s1.grow G) (w1.trans G.w) wp cp h2p ct (s1.apart hp) fun z => s1.lb p (.inr z) hp
end
end Ty

set_option maxHeartbeats 4000000
namespace Ty
open PySem PySem.Spec PyProof.Rows L2

/-! ### blocks -/
/-- where a block may go: on, back (a value), out of a loop, to its next turn -/
structure Go (K : Frag) (ρ β : Type) where
  R : Hp → Hp → V → ρ → Prop
  ret : ρ → β
  nx : En K → Option β → Prop
  bk : En K → Option β → Prop := fun _ _ => False
  ct : En K → Option β → Prop := fun _ _ => False
section
variable (X : Cx) (C : Ct) {ρ β : Type}
/-- the piece w (a statement, a block) from Γ with the rest r to go -/
structure GK (w : TS) (Γ : En X.K) (r : Option β) (T : Go X.K ρ β) : Prop where
  run : ∀ (z : β) σ W H (D : Ends), Sat C Γ σ W H → r = some z →
    (∀ Γ' r' σ' W' H', T.nx Γ' r' → r' = some z → Sat C Γ' σ' W' H' → Same W W' → D.nx σ' H') →
    (∀ Γ' r' σ' W' H', T.bk Γ' r' → r' = some z → Sat C Γ' σ' W' H' → Same W W' → D.bk σ' H') →
    (∀ Γ' r' σ' W' H', T.ct Γ' r' → r' = some z → Sat C Γ' σ' W' H' → Same W W' → D.ct σ' H') →
    (∀ x v (Γ' : En X.K) σ' W' H', T.ret x = z → Sat C Γ' σ' W' H' → Same W W' → T.R W' H' v x → D.rt v H') → w D σ H
end
instance {X : Cx} {C : Ct} {ρ β : Type} {w : TS} {Γ : En X.K} {r : Option β} {T : Go X.K ρ β} : CoeFun (GK X C w Γ r T) (fun _ => ∀ (z : β) σ W H (D : Ends), Sat C Γ σ W H → r = some z →
    (∀ Γ' r' σ' W' H', T.nx Γ' r' → r' = some z → Sat C Γ' σ' W' H' → Same W W' → D.nx σ' H') →
    (∀ Γ' r' σ' W' H', T.bk Γ' r' → r' = some z → Sat C Γ' σ' W' H' → Same W W' → D.bk σ' H') →
    (∀ Γ' r' σ' W' H', T.ct Γ' r' → r' = some z → Sat C Γ' σ' W' H' → Same W W' → D.ct σ' H') →
    (∀ x v (Γ' : En X.K) σ' W' H', T.ret x = z → Sat C Γ' σ' W' H' → Same W W' → T.R W' H' v x → D.rt v H') → w D σ H) := ⟨GK.run⟩
section
variable {X : Cx} {C : Ct} {ρ α β γ : Type} {Γ : En X.K} {e a b : Expr} {es : List Expr} {st : Stmt} {sts rest : List Stmt} {r : Option β} {T : Go X.K ρ β} {pos p p2 p3 : Pos}
theorem gk_nil (h : T.nx Γ r) : GK X C (wpB X []) Γ r T := GK.mk fun z σ W H D s hr kn kb kc kr => w_pss pss_nil (kn Γ r σ W H h hr s (Same.refl _))
theorem gk_cons (h : GK X C (wpS X st) Γ r { T with nx := fun Γ1 r1 => GK X C (wpB X rest) Γ1 r1 T }) : GK X C (wpB X (st :: rest)) Γ r T := GK.mk fun z σ W H D s hr kn kb kc kr =>
  w_pss (pss_cons ps_w pss_w) (h z σ W H { D with nx := wpB X rest D } s hr (fun Γ1 r1 σ1 W1 H1 g hr1 s1 w1 => g z σ1 W1 H1 D s1 hr1
    (fun Γ' r' σ' W' H' a b c d => kn Γ' r' σ' W' H' a b c (w1.trans d)) (fun Γ' r' σ' W' H' a b c d => kb Γ' r' σ' W' H' a b c (w1.trans d)) (fun Γ' r' σ' W' H' a b c d => kc Γ' r' σ' W' H' a b c (w1.trans d))
    (fun x v Γ' σ' W' H' a b c d => kr x v Γ' σ' W' H' a b (w1.trans c) d)) kb kc kr)
theorem gk_one (h : GK X C (wpS X st) Γ r T) : GK X C (wpB X [st]) Γ r T := GK.mk fun z σ W H D s hr kn kb kc kr => w_pss (pss_one ps_w) (h z σ W H D s hr kn kb kc kr)
theorem gk_wk {w : TS} {Γ' : En X.K} (g : Wk C Γ Γ') (h : GK X C w Γ' r T) : GK X C w Γ r T := GK.mk fun z σ W H D s hr kn kb kc kr => by
  obtain ⟨W1, w1, s1⟩ := g σ W H s
  exact h z σ W1 H D s1 hr (fun Γ' r' σ' W' H' a b c d => kn Γ' r' σ' W' H' a b c (w1.trans d)) (fun Γ' r' σ' W' H' a b c d => kb Γ' r' σ' W' H' a b c (w1.trans d)) (fun Γ' r' σ' W' H' a b c d => kc Γ' r' σ' W' H' a b c (w1.trans d))
    (fun x v Γ' σ' W' H' a b c d => kr x v Γ' σ' W' H' a b (w1.trans c) d)
theorem gs_pass (h : T.nx Γ r) : GK X C (wpS X (.Pass pos)) Γ r T := GK.mk fun z σ W H D s hr kn kb kc kr => w_ps ps_pass (kn Γ r σ W H h hr s (Same.refl _))
theorem gs_break (h : T.bk Γ r) : GK X C (wpS X (.Break pos)) Γ r T := GK.mk fun z σ W H D s hr kn kb kc kr => w_ps ps_break (kb Γ r σ W H h hr s (Same.refl _))
theorem gs_continue (h : T.ct Γ r) : GK X C (wpS X (.Continue pos)) Γ r T := GK.mk fun z σ W H D s hr kn kb kc kr => w_ps ps_continue (kc Γ r σ W H h hr s (Same.refl _))
theorem gs_ret {c : Cod X.K ρ} (h : EX X C Γ e c r fun x _ r1 => r1 = some (T.ret x)) (hR : T.R = fun W _ v x => c.rp W v x := by rfl) : GK X C (wpS X (.Return (some e) pos)) Γ r T := GK.mk fun z σ W H D s hr kn kb kc kr =>
  w_ps (ps_ret pe_w) (h z σ W H _ s hr fun x Γ1 r1 W1 H1 v j1 hr1 s1 w1 q1 => kr x v Γ1 σ W1 H1 (by rw [j1] at hr1; exact Option.some.inj hr1) s1 w1 (by rw [hR]; exact q1))
/-- a new object that belongs to the caller -/
def NewR {K : Frag} (C : Ct) (c : Cel K ρ) : Hp → Hp → V → ρ → Prop := fun W H v x => ∃ p o, v = .ref p ∧ W p = none ∧ C.H p = none ∧ H p = some o ∧ c.ct W o x
theorem gs_retN {c : Cel X.K ρ} (h : EF X C Γ e c r fun x _ r1 => r1 = some (T.ret x)) (hR : T.R = NewR C c := by rfl) : GK X C (wpS X (.Return (some e) pos)) Γ r T := GK.mk fun z σ W H D s hr kn kb kc kr =>
  w_ps (ps_ret pe_w) (h z σ W H _ s hr fun x Γ1 r1 W1 H1 p o j1 hr1 s1 w1 wp cp hp ct ap la => kr x _ Γ1 σ W1 H1 (by rw [j1] at hr1; exact Option.some.inj hr1) s1 w1 (by rw [hR]; exact ⟨p, o, rfl, wp, cp, hp, ct⟩))
/-- return x, x a name that owns its object -/
theorem gs_retO {c : Cel X.K ρ} {x : ρ} {n : Str} (i : Nat) (hr0 : r = some (T.ret x)) (hR : T.R = NewR C c := by rfl) (hB : ∀ a, ¬ C.B a := by intro _ h; exact h) (hN : X.N[i]? = some n := by rfl) (hΓ : Γ[i]? = some (.ow c x) := by rfl)
    (hv : Vis X.env.scope n := by first | exact Or.inl rfl | exact Or.inr (Or.inl rfl) | exact Or.inr (Or.inr rfl)) (hd : (n == ("__debug__" : Str)) = false := by decide) (hcd : (n == ("__classdict__" : Str)) = false := by decide) :
    GK X C (wpS X (.Return (some (.Name n p)) pos)) Γ r T := GK.mk fun z σ W H D s hr kn kb kc kr =>
  w_ps (ps_ret (pe_var hN hv hd hcd)) (by
    obtain ⟨ad, o, e1, e2, e3, e4, e5⟩ := s.sl i _ hΓ
    exact ⟨_, getD_some e1, kr x _ Γ σ W H (by rw [hr0] at hr; exact Option.some.inj hr) s (Same.refl _) (by rw [hR]; exact ⟨ad, o, rfl, e2, e3.resolve_right (hB ad), e4, e5⟩)⟩)
/-- the scope's slot of a local name -/
theorem set_len {σ : L2.St} {n : Nat} {i : Nat} {x : Str} {N : List Str} (h : σ.length = N.length) (hi : N[i]? = some x) : i < σ.length := by
  rw [h]; exact (List.getElem?_eq_some_iff.mp hi).1
theorem gs_set {c : Cod X.K α} {n : Str} (i : Nat) (h : EX X C Γ e c r fun x Γ1 r1 => T.nx (Γ1.set i (.im c x)) r1) (hnd : X.N.Nodup) (hN : X.N[i]? = some n := by rfl)
    (hx : Loc X.env.scope n := by first | exact Or.inl rfl | exact Or.inr rfl) (hs : swapsWith e (some (.Name n p)) pos.line X.env = pure false := by rfl) (hf : X.fn n = true ∨ X.env.scope.names.lookup n = some .local := by first | exact .inl rfl | exact .inr rfl) :
    GK X C (wpS X (.Assign [.Name n p] e pos)) Γ r T := GK.mk fun z σ W H D s hr kn kb kc kr => fun pins sh I => by
  have hl : i < σ.length := set_len (n := 0) I.len hN
  exact (ps_set hnd hN hx pe_w hs hf).run pins sh σ H D I (h z σ W H _ s hr fun x Γ1 r1 W1 H1 v j1 hr1 s1 w1 q1 => kn _ r1 _ W1 H1 j1 hr1 (s1.put hl q1) w1)
/-- .. and the value is a letter from now on -/
def lt {δ : Type} (x : α) (k : α → δ) : δ := k x
theorem gs_let {c : Cod X.K α} {n : Str} (i : Nat) (h : EX X C Γ e c r fun x Γ1 r1 => ∃ k, r1 = lt x k ∧ ∀ y, T.nx (Γ1.set i (.im c y)) (k y)) (hnd : X.N.Nodup) (hN : X.N[i]? = some n := by rfl)
    (hx : Loc X.env.scope n := by first | exact Or.inl rfl | exact Or.inr rfl) (hs : swapsWith e (some (.Name n p)) pos.line X.env = pure false := by rfl) (hf : X.fn n = true ∨ X.env.scope.names.lookup n = some .local := by first | exact .inl rfl | exact .inr rfl) :
    GK X C (wpS X (.Assign [.Name n p] e pos)) Γ r T := GK.mk fun z σ W H D s hr kn kb kc kr => fun pins sh I => by
  have hl : i < σ.length := set_len (n := 0) I.len hN
  exact (ps_set hnd hN hx pe_w hs hf).run pins sh σ H D I (h z σ W H _ s hr fun x Γ1 r1 W1 H1 v j1 hr1 s1 w1 q1 => by
    obtain ⟨k, e1, j1⟩ := j1
    rw [e1] at hr1
    exact kn _ _ _ W1 H1 (j1 x) hr1 (s1.put hl q1) w1)
/-- a name is given a new object -/
theorem gs_setN {c : Cel X.K α} {n : Str} (i : Nat) (h : EF X C Γ e c r fun x Γ1 r1 => T.nx (Γ1.set i (.ow c x)) r1) (hnd : X.N.Nodup) (hN : X.N[i]? = some n := by rfl)
    (hx : Loc X.env.scope n := by first | exact Or.inl rfl | exact Or.inr rfl) (hs : swapsWith e (some (.Name n p)) pos.line X.env = pure false := by rfl) (hf : X.fn n = true ∨ X.env.scope.names.lookup n = some .local := by first | exact .inl rfl | exact .inr rfl) :
    GK X C (wpS X (.Assign [.Name n p] e pos)) Γ r T := GK.mk fun z σ W H D s hr kn kb kc kr => fun pins sh I => by
  have hl : i < σ.length := set_len (n := 0) I.len hN
  exact (ps_set hnd hN hx pe_w hs hf).run pins sh σ H D I (h z σ W H _ s hr fun x Γ1 r1 W1 H1 p o j1 hr1 s1 w1 wp cp hp ct ap la => kn _ r1 _ W1 H1 j1 hr1 (s1.take hl wp (.inl cp) hp ct ap la) w1)
theorem gs_expr {c : Cod X.K α} (h : EX X C Γ e c r fun _ Γ1 r1 => T.nx Γ1 r1) (hs : swapsWith e none pos.line X.env = pure false := by rfl) : GK X C (wpS X (.Expr e pos)) Γ r T := GK.mk fun z σ W H D s hr kn kb kc kr =>
  w_ps (ps_expr pe_w hs) (h z σ W H _ s hr fun x Γ1 r1 W1 H1 v j1 hr1 s1 w1 q1 => kn Γ1 r1 σ W1 H1 j1 hr1 s1 w1)
/-- if t: a block that does not go on -/
theorem gs_ifR (h : ET X C Γ e r fun x Γ1 r1 => ∃ ra rb, r1 = cond x ra rb ∧ GK X C (wpB X sts) Γ1 ra { T with nx := fun _ _ => False } ∧ T.nx Γ1 rb) : GK X C (wpS X (.If e sts [] pos)) Γ r T := GK.mk fun z σ W H D s hr kn kb kc kr =>
  w_ps (ps_if pt_w pss_w pss_nil) (h z σ W H _ s hr fun x Γ1 r1 W1 H1 j1 hr1 s1 w1 => by
    obtain ⟨ra, rb, e1, ga, gb⟩ := j1
    rw [e1] at hr1
    cases x with
    | true =>
      rw [if_pos rfl]
      exact ga z σ W1 H1 _ s1 hr1 (fun _ _ _ _ _ f => f.elim) (fun Γ' r' σ' W' H' a b c d => kb Γ' r' σ' W' H' a b c (w1.trans d)) (fun Γ' r' σ' W' H' a b c d => kc Γ' r' σ' W' H' a b c (w1.trans d)) (fun x v Γ' σ' W' H' a b c d => kr x v Γ' σ' W' H' a b (w1.trans c) d)
    | false =>
      rw [if_neg Bool.false_ne_true]
      exact kn Γ1 rb σ W1 H1 gb hr1 s1 w1)
/-- if t: .. else: .., both as they stand -/
theorem gs_if2 {sts2 : List Stmt} (h : ET X C Γ e r fun x Γ1 r1 => ∃ ra rb, r1 = cond x ra rb ∧ GK X C (wpB X sts) Γ1 ra T ∧ GK X C (wpB X sts2) Γ1 rb T) : GK X C (wpS X (.If e sts sts2 pos)) Γ r T := GK.mk fun z σ W H D s hr kn kb kc kr =>
  w_ps (ps_if pt_w pss_w pss_w) (h z σ W H _ s hr fun x Γ1 r1 W1 H1 j1 hr1 s1 w1 => by
    obtain ⟨ra, rb, e1, ga, gb⟩ := j1
    rw [e1] at hr1
    cases x with
    | true =>
      rw [if_pos rfl]
      exact ga z σ W1 H1 _ s1 hr1 (fun Γ' r' σ' W' H' a b c d => kn Γ' r' σ' W' H' a b c (w1.trans d)) (fun Γ' r' σ' W' H' a b c d => kb Γ' r' σ' W' H' a b c (w1.trans d)) (fun Γ' r' σ' W' H' a b c d => kc Γ' r' σ' W' H' a b c (w1.trans d)) (fun x v Γ' σ' W' H' a b c d => kr x v Γ' σ' W' H' a b (w1.trans c) d)
    | false =>
      rw [if_neg Bool.false_ne_true]
      exact gb z σ W1 H1 _ s1 hr1 (fun Γ' r' σ' W' H' a b c d => kn Γ' r' σ' W' H' a b c (w1.trans d)) (fun Γ' r' σ' W' H' a b c d => kb Γ' r' σ' W' H' a b c (w1.trans d)) (fun Γ' r' σ' W' H' a b c d => kc Γ' r' σ' W' H' a b c (w1.trans d)) (fun x v Γ' σ' W' H' a b c d => kr x v Γ' σ' W' H' a b (w1.trans c) d))
/-- how a part of a block ends: on with a state, back, out, again -/
inductive Fl (S ρ : Type) where
  | nx (s : S) | rt (x : ρ) | bk (s : S) | ct (s : S)
/-- a part's going, told by its end -/
def goF {K : Frag} {S : Type} (C : Ct) (R : Hp → Hp → V → ρ → Prop) (Γs : S → En K) : Go K ρ (Fl S ρ) where
  R := R
  ret := .rt
  nx := fun Γ' r' => ∃ s, r' = some (.nx s) ∧ Wk C Γ' (Γs s)
  bk := fun Γ' r' => ∃ s, r' = some (.bk s) ∧ Wk C Γ' (Γs s)
  ct := fun Γ' r' => ∃ s, r' = some (.ct s) ∧ Wk C Γ' (Γs s)
/-- .. that only goes on -/
def goS {K : Frag} {S : Type} (C : Ct) (Γs : S → En K) : Go K Empty S where
  R := fun _ _ _ _ => False
  ret := Empty.elim
  nx := fun Γ' r' => ∃ s, r' = some s ∧ Wk C Γ' (Γs s)
theorem goes {K : Frag} {S : Type} {C : Ct} {Γ' : En K} {Γs : S → En K} {s : S} (w : Wk C Γ' (Γs s)) : (goS C Γs).nx Γ' (some s) := ⟨s, rfl, w⟩
/-- a part of a block, joined by a state -/
theorem gk_join {S : Type} {w : TS} {m : Option S} {k : S → Option β} (Γs : S → En X.K) (hr0 : r = m >>= k) (hw : GK X C w Γ m (goS C Γs)) (h : ∀ s, T.nx (Γs s) (k s)) : GK X C w Γ r T := GK.mk fun z σ W H D s hr kn kb kc kr => by
  rw [hr0] at hr
  obtain ⟨t, e1, e2⟩ := bind_some hr
  refine hw t σ W H D s e1 (fun Γ1 r1 σ1 W1 H1 j hr1 s1 w1 => ?_) (fun _ _ _ _ _ f => f.elim) (fun _ _ _ _ _ f => f.elim) fun x => x.elim
  obtain ⟨t', e3, g⟩ := j
  rw [hr1] at e3; cases e3
  obtain ⟨W2, w2, s2⟩ := g σ1 W1 H1 s1
  exact kn _ _ σ1 W2 H1 (h t) e2 s2 (w1.trans w2)
/-- .. that may also go back, out, again -/
theorem gk_joinF {S : Type} {w : TS} {m : Option (Fl S ρ)} {k : Fl S ρ → Option β} (Γs : S → En X.K) (hr0 : r = m >>= k) (hw : GK X C w Γ m (goF C T.R Γs)) (h : ∀ s, T.nx (Γs s) (k (.nx s))) (hret : ∀ x, k (.rt x) = some (T.ret x))
    (hbk : ∀ s z, k (.bk s) = some z → T.bk (Γs s) (k (.bk s)) := by intro _ _ h; cases h) (hct : ∀ s z, k (.ct s) = some z → T.ct (Γs s) (k (.ct s)) := by intro _ _ h; cases h) : GK X C w Γ r T := GK.mk fun z σ W H D s hr kn kb kc kr => by
  rw [hr0] at hr
  obtain ⟨t, e1, e2⟩ := bind_some hr
  refine hw t σ W H D s e1 (fun Γ1 r1 σ1 W1 H1 j hr1 s1 w1 => ?_) (fun Γ1 r1 σ1 W1 H1 j hr1 s1 w1 => ?_) (fun Γ1 r1 σ1 W1 H1 j hr1 s1 w1 => ?_) fun x v Γ1 σ1 W1 H1 e s1 w1 q => ?_
  · obtain ⟨t', e3, g⟩ := j
    rw [hr1] at e3; cases e3
    obtain ⟨W2, w2, s2⟩ := g σ1 W1 H1 s1
    exact kn _ _ σ1 W2 H1 (h t') e2 s2 (w1.trans w2)
  · obtain ⟨t', e3, g⟩ := j
    rw [hr1] at e3; cases e3
    obtain ⟨W2, w2, s2⟩ := g σ1 W1 H1 s1
    exact kb _ _ σ1 W2 H1 (hbk t' z e2) e2 s2 (w1.trans w2)
  · obtain ⟨t', e3, g⟩ := j
    rw [hr1] at e3; cases e3
    obtain ⟨W2, w2, s2⟩ := g σ1 W1 H1 s1
    exact kc _ _ σ1 W2 H1 (hct t' z e2) e2 s2 (w1.trans w2)
  · have e : Fl.rt x = t := e
    subst e
    rw [hret x] at e2
    exact kr x v Γ1 σ1 W1 H1 (Option.some.inj e2) s1 w1 q

/-! targets -/
/-- σ' is σ but at the places ws -/
structure Agr (ws : List Nat) (σ σ' : L2.St) : Prop where
  len : σ'.length = σ.length
  eq : ∀ i, i ∉ ws → σ'[i]? = σ[i]?
theorem Agr.wipe {ws vs : List Nat} {σ σ' : L2.St} (h : Agr ws σ σ') (hs : ∀ i ∈ ws, i ∈ vs) : L2.wipe σ' vs = L2.wipe σ vs := by
  apply List.ext_getElem?
  intro i
  by_cases hi : i ∈ vs
  · have one : ∀ (τ : L2.St) (vs : List Nat), i ∈ vs → (L2.wipe τ vs)[i]? = if i < τ.length then some none else none := by
      intro τ vs
      induction vs with
      | nil => intro h; cases h
      | cons v vs ih =>
        intro hm
        show ((L2.wipe τ vs).set v none)[i]? = _
        by_cases hv : i = v
        · subst hv
          rw [List.getElem?_set]
          simp [wipe_length]
        · rw [List.getElem?_set_ne (Ne.symm hv)]
          exact ih ((List.mem_cons.mp hm).resolve_left hv)
    rw [one σ' vs hi, one σ vs hi, h.len]
  · rw [wipe_get hi, wipe_get hi]
    exact h.eq i fun z => hi (hs i z)
theorem drops_set {K : Frag} {e : Ent K} : ∀ {vs : List Nat} {Γ : En K} {i : Nat}, i ∈ vs → drops0 vs (Γ.set i e) = drops0 vs Γ
  | v :: vs, Γ, i, h => by
    show drops0 vs ((Γ.set i e).set v .no) = drops0 vs (Γ.set v .no)
    by_cases hi : i = v
    · subst hi; rw [List.set_set]
    · rw [List.set_comm _ _ hi]
      exact drops_set ((List.mem_cons.mp h).resolve_left hi)
theorem drops_idem {K : Frag} : ∀ (vs : List Nat) (us : List Nat) (Γ : En K), (∀ i ∈ us, i ∈ vs) → drops0 vs (drops0 us Γ) = drops0 vs Γ
  | _, [], _, _ => rfl
  | vs, u :: us, Γ, h => by
    show drops0 vs (drops0 us (Γ.set u .no)) = _
    rw [drops_idem vs us _ fun i hi => h i (List.mem_cons_of_mem _ hi)]
    exact drops_set (h u (List.mem_cons_self ..))
structure AG (X : Cx) (C : Ct) (tg : Expr) (c : Cod X.K α) (ws : List Nat) (up : En X.K → α → En X.K) : Prop where
  run : ∀ Γ σ W H v x (Q : L2.St → Hp → Prop), Sat C Γ σ W H → c.rp W v x → (∀ σ', Sat C (up Γ x) σ' W H → Agr ws σ σ' → Q σ' H) → wpg X tg v σ H Q
  dr : ∀ Γ x vs, (∀ i ∈ ws, i ∈ vs) → drops0 vs (up Γ x) = drops0 vs Γ
theorem ag_name {c : Cod X.K α} {n : Str} (i : Nat) (hnd : X.N.Nodup) (hN : X.N[i]? = some n := by rfl) (hx : Loc X.env.scope n := by first | exact Or.inl rfl | exact Or.inr rfl) (hf : X.fn n = true ∨ X.env.scope.names.lookup n = some .local := by first | exact .inl rfl | exact .inr rfl) :
    AG X C (.Name n p) c [i] fun Γ x => Γ.set i (.im c x) := ⟨fun Γ σ W H v x Q s q k pins sh u I rv => by
  have hl : i < σ.length := set_len (n := 0) I.len hN
  exact (pg_name hnd hN hx hf).run pins sh σ H v u Q I rv (k _ (s.put hl q) ⟨by simp, fun j hj => by
    simp only [List.mem_cons, List.not_mem_nil, or_false] at hj
    exact List.getElem?_set_ne (Ne.symm hj)⟩), fun Γ x vs h => drops_set (h i (List.mem_cons_self ..))⟩
structure AGs (X : Cx) (C : Ct) (tgs : List Expr) (t : TC X.K α) (ws : List Nat) (up : En X.K → α → En X.K) : Prop where
  run : ∀ Γ σ W H vs x (Q : L2.St → Hp → Prop), Sat C Γ σ W H → t.rp W vs x → (∀ σ', Sat C (up Γ x) σ' W H → Agr ws σ σ' → Q σ' H) →
    ∀ pins s us, Inv X pins σ H s → Vals vs us → wpAny (model X.prog X.w) X.A (assignInOrder ((assignEach tgs X.env).map (·.2)) us) (fun _ s' => ∃ σ' H', Inv X pins σ' H' s' ∧ Q σ' H') X.xe s
  dr : ∀ Γ x vs, (∀ i ∈ ws, i ∈ vs) → drops0 vs (up Γ x) = drops0 vs Γ
theorem ags_cons {tg : Expr} {tgs : List Expr} {c : Cod X.K α} {t : TC X.K β} {ws ws2 : List Nat} {up : En X.K → α → En X.K} {ups : En X.K → β → En X.K} (h : AG X C tg c ws up) (hr : AGs X C tgs t ws2 ups)
    (hs : (assignEach (tg :: tgs) X.env).map (·.2) = assign tg X.env :: (assignEach tgs X.env).map (·.2) := by rfl) : AGs X C (tg :: tgs) (tcC c t) (ws ++ ws2) fun Γ x => ups (up Γ x.1) x.2 := ⟨fun Γ σ W H vs x Q s q k pins sh us I rv => by
  obtain ⟨v, vr, rfl, q1, q2⟩ := q
  cases rv with
  | cons r rr =>
    rw [hs]
    refine assignInOrder_cons (thn (h.run Γ σ W H v x.1 (fun σ' H' => H' = H ∧ Sat C (up Γ x.1) σ' W H ∧ Agr ws σ σ') s q1 (fun σ' s' ag => ⟨rfl, s', ag⟩) pins sh _ I r) fun _ s1 ⟨σ1, H1, I1, eH, s1', ag⟩ => ?_)
    subst eH
    exact hr.run (up Γ x.1) σ1 W H1 vr x.2 Q s1' q2 (fun σ2 s2 ag2 => k σ2 s2 ⟨ag2.len.trans ag.len, fun i hi => by
      simp only [List.mem_append, not_or] at hi
      exact (ag2.eq i hi.2).trans (ag.eq i hi.1)⟩) pins s1 _ I1 rr, fun Γ x vs hh => by
    rw [hr.dr _ _ _ fun i hi => hh i (List.mem_append_right _ hi)]
    exact h.dr _ _ _ fun i hi => hh i (List.mem_append_left _ hi)⟩
theorem ags_one {tg : Expr} {c : Cod X.K α} {ws : List Nat} {up : En X.K → α → En X.K} (h : AG X C tg c ws up)
    (hs : (assignEach [tg] X.env).map (·.2) = assign tg X.env :: (assignEach [] X.env).map (·.2) := by rfl) : AGs X C [tg] (tc1 c) ws up := ⟨fun Γ σ W H vs x Q s q k pins sh us I rv => by
  obtain ⟨v, rfl, q1⟩ := q
  cases rv with
  | cons r rr =>
    rw [hs]
    refine assignInOrder_cons (thn (h.run Γ σ W H v x (fun σ' H' => H' = H ∧ Sat C (up Γ x) σ' W H ∧ Agr ws σ σ') s q1 (fun σ' s' ag => ⟨rfl, s', ag⟩) pins sh _ I r) fun _ s1 ⟨σ1, H1, I1, eH, s1', ag⟩ => ?_)
    subst eH
    exact pgs_nil.run pins s1 σ1 H1 [] _ Q I1 rr ⟨rfl, k σ1 s1' ag⟩, h.dr⟩
theorem ag_tup {t : TC X.K α} {ws : List Nat} {up : En X.K → α → En X.K} {k} (hc : X.calm = true) (h : AGs X C es t ws up) (hn : (assignEach es X.env).length = t.n := by rfl) (hst : (assignEach es X.env).findIdx? (·.1) = none := by rfl) :
    AG X C (.Tuple es k pos) (cTup t) ws up := ⟨fun Γ σ W H v x Q s q kk pins sh u I rv => by
  obtain ⟨ad, vs, rfl, h2, h3⟩ := q
  have pg : PGs X es (fun us σ' H' Q' => us = vs ∧ σ' = σ ∧ H' = H ∧ Q' = Q) := ⟨fun pins s1 σ1 H1 vs1 us1 Q1 I1 r1 ⟨e1, e2, e3, e4⟩ => by
    subst e1 e2 e3 e4
    exact h.run Γ _ W _ _ x _ s h3 kk pins s1 us1 I1 r1⟩
  exact (pg_tup hc pg hn hst).run pins sh σ H (.ref ad) u Q I rv ⟨ad, vs, rfl, Same.tup s.sub h2, t.len h3, rfl, rfl, rfl, rfl⟩, h.dr⟩
/-- (a, b, ..) = e, for .. in e: by a target -/
theorem gs_asg {c : Cod X.K α} {tg : Expr} {ws : List Nat} {up : En X.K → α → En X.K} (hg : AG X C tg c ws up) (h : EX X C Γ e c r fun x Γ1 r1 => T.nx (up Γ1 x) r1) (hs : swapsWithSole [tg] e pos.line X.env = pure false := by rfl) (hw : swappedStores [tg] e X.env = pure none := by rfl)
    (h1 : (assignEach [tg] X.env).map (·.2) = [assign tg X.env] := by rfl) : GK X C (wpS X (.Assign [tg] e pos)) Γ r T := GK.mk fun z σ W H D s hr kn kb kc kr =>
  w_ps (ps_asg pe_w pg_w hs hw h1) (h z σ W H _ s hr fun x Γ1 r1 W1 H1 v j1 hr1 s1 w1 q1 => hg.run Γ1 σ W1 H1 v x _ s1 q1 fun σ' s' _ => kn _ r1 σ' W1 H1 j1 hr1 s' w1)
/-- a, b = e1, e2 with local names -/
theorem gs_par {c1 : Cod X.K α} {c2 : Cod X.K γ} {x y : Str} {px py pt : Pos} {kt k2 pt2} (i j : Nat) (hc : X.calm = true) (hnd : X.N.Nodup)
    (h : EA X C Γ [a, b] (tcC c1 (tc1 c2)) r fun v Γ1 r1 => T.nx ((Γ1.set i (.im c1 v.1)).set j (.im c2 v.2)) r1) (hi : X.N[i]? = some x := by rfl) (hj : X.N[j]? = some y := by rfl) (hij : i ≠ j := by decide)
    (hx : X.env.scope.names.lookup x = some .local := by rfl) (hy : X.env.scope.names.lookup y = some .local := by rfl)
    (hw : swappedStores [.Tuple [.Name x px, .Name y py] kt pt] (.Tuple [a, b] k2 pt2) X.env = pure (some [x, y]) := by rfl)
    (hs : swapsWithSole [.Tuple [.Name x px, .Name y py] kt pt] (.Tuple [a, b] k2 pt2) pos.line X.env = pure false := by rfl) : GK X C (wpS X (.Assign [.Tuple [.Name x px, .Name y py] kt pt] (.Tuple [a, b] k2 pt2) pos)) Γ r T := GK.mk fun z σ W H D s hr kn kb kc kr pins sh I => by
  have hl : i < σ.length := set_len (n := 0) I.len hi
  have hl2 : j < σ.length := set_len (n := 0) I.len hj
  exact (ps_par hc hnd hi hj hij hx hy pa_w hw hs).run pins sh σ H D I (h z σ W H _ s hr fun v Γ1 r1 W1 H1 vs j1 hr1 s1 w1 q1 => by
    obtain ⟨v1, r, rfl, q2, v2, rfl, q3⟩ := q1
    exact ⟨v1, v2, rfl, kn _ r1 _ W1 H1 j1 hr1 ((s1.put hl q2).put (by rw [List.length_set]; exact hl2) q3) w1⟩)

/-! while -/
/-- turns of f, at most n -/
def whl {S : Type} : Nat → S → (S → Option (Fl S ρ)) → Option (Fl S ρ)
  | 0, _, _ => none
  | n + 1, s, f => f s >>= fun o => match o with
    | .nx s' => whl n s' f
    | .ct s' => whl n s' f
    | .bk s' => some (.nx s')
    | .rt x => some (.rt x)
theorem gs_while {S : Type} (n : Nat) (s0 : S) (f : S → Option (Fl S ρ)) (k : Fl S ρ → Option β) (Γs : S → En X.K) (hr0 : r = whl n s0 f >>= k) (g0 : Wk C Γ (Γs s0))
    (hb : ∀ s, ET X C (Γs s) e (f s) fun x Γ1 r1 => ∃ ra, r1 = cond x ra (some (.bk s)) ∧ Wk C Γ1 (Γs s) ∧ GK X C (wpB X sts) Γ1 ra (goF C T.R Γs))
    (h : ∀ s, T.nx (Γs s) (k (.nx s))) (hret : ∀ x, k (.rt x) = some (T.ret x)) (hp : PassesOwn (model X.prog X.w) X.A X.env X.xe) : GK X C (wpS X (.While e sts [] pos)) Γ r T := GK.mk fun z σ W H D s hr kn kb kc kr => by
  rw [hr0] at hr
  obtain ⟨t, e1, e2⟩ := bind_some hr
  refine w_ps (ps_while hp pt_w pss_w) ⟨fun m σ H => ∃ s W', whl m s f = some t ∧ Sat C (Γs s) σ W' H ∧ Same W W', ⟨n, ?_⟩, ?_⟩
  · obtain ⟨W1, w1, s1⟩ := g0 σ W H s
    exact ⟨s0, W1, e1, s1, w1⟩
  · rintro m σ1 H1 ⟨s1, W1, f1, sat1, w1⟩
    cases m with
    | zero => cases f1
    | succ m =>
      obtain ⟨o, f2, f3⟩ := bind_some (show f s1 >>= _ = some t from f1)
      refine hb s1 o σ1 W1 H1 _ sat1 f2 fun x Γ2 r2 W2 H2 j2 hr2 s2 w2 => ?_
      obtain ⟨ra, e3, g3, gb⟩ := j2
      rw [e3] at hr2
      cases x with
      | false =>
        rw [if_neg Bool.false_ne_true]
        have hr2 : some (Fl.bk s1) = some o := hr2
        cases hr2
        have f3 : some (Fl.nx s1) = some t := f3
        cases f3
        obtain ⟨W3, w3, s3⟩ := g3 σ1 W2 H2 s2
        exact kn _ _ σ1 W3 H2 (h s1) e2 s3 ((w1.trans w2).trans w3)
      | true =>
        rw [if_pos rfl]
        refine ⟨fun σ' H' => ∃ m', m' < m + 1 ∧ ∃ s W', whl m' s f = some t ∧ Sat C (Γs s) σ' W' H' ∧ Same W W', fun σ' H' q => q, ?_⟩
        have hr2 : ra = some o := hr2
        refine gb o σ1 W2 H2 _ s2 hr2 (fun Γ4 r4 σ4 W4 H4 j4 hr4 s4 w4 => ?_) (fun Γ4 r4 σ4 W4 H4 j4 hr4 s4 w4 => ?_) (fun Γ4 r4 σ4 W4 H4 j4 hr4 s4 w4 => ?_) fun x v Γ4 σ4 W4 H4 e4 s4 w4 q4 => ?_
        · obtain ⟨t4, e4, g4⟩ := j4
          rw [hr4] at e4; cases e4
          obtain ⟨W5, w5, s5⟩ := g4 σ4 W4 H4 s4
          exact ⟨m, Nat.lt_succ_self _, t4, W5, f3, s5, ((w1.trans w2).trans w4).trans w5⟩
        · obtain ⟨t4, e4, g4⟩ := j4
          rw [hr4] at e4; cases e4
          have f3 : some (Fl.nx t4) = some t := f3
          cases f3
          obtain ⟨W5, w5, s5⟩ := g4 σ4 W4 H4 s4
          exact kn _ _ σ4 W5 H4 (h t4) e2 s5 (((w1.trans w2).trans w4).trans w5)
        · obtain ⟨t4, e4, g4⟩ := j4
          rw [hr4] at e4; cases e4
          obtain ⟨W5, w5, s5⟩ := g4 σ4 W4 H4 s4
          exact ⟨m, Nat.lt_succ_self _, t4, W5, f3, s5, ((w1.trans w2).trans w4).trans w5⟩
        · have e4 : Fl.rt x = o := e4
          subst e4
          have f3 : some (Fl.rt x) = some t := f3
          cases f3
          rw [hret x] at e2
          exact kr x v Γ4 σ4 W4 H4 (Option.some.inj e2) s4 ((w1.trans w2).trans w4) q4

/-! for -/
/-- what is walked: xs, whatever the heap grows to -/
structure WalksX (c : Cod X.K α) (W0 : Hp) (xs : List α) (J : It) : Prop where
  len : xs.length ≤ sizeLine
  at_ : ∀ (i : Nat) (W H : Hp), Same W0 W → Same W H →
    (xs.length ≤ i → J.stop i H) ∧ (i < xs.length → J.go i H ∧ ∀ v H', J.yld i H v H' → ∃ W' x, Grow W H W' H' ∧ xs[i]? = some x ∧ c.rp W' v x)
/-- no list is too long -/
def LenOk (H : Hp) : Prop := ∀ a xs, (Rd H a (.lst xs) ∨ Rd H a (.tup xs)) → xs.length ≤ sizeLine
theorem lenOk_of {P : Program} {w : World} {H : Hp} {h : Heap} (x : HOk P w H h) : LenOk H := fun a xs q => by
  rcases q with q | q
  · exact (q.ok x).1
  · exact (q.ok x).1
theorem pe_wL : PE X e fun σ H Q => wpe X e σ H fun v H' => LenOk H' → Q v H' := ⟨fun pins s σ H Q I h => thn (h pins s I) fun v s1 ⟨x, H1, I1, r1, q1⟩ => ⟨x, H1, I1, r1, q1 (lenOk_of I1.hok)⟩⟩
theorem sqt_len {K : Frag} {H : Hp} {a : Addr} {xs : List V} (l : LenOk H) (h : SqT K H a xs) : xs.length ≤ sizeLine := by
  rcases h with h | ⟨o, its, n, _, _, _, hz, r⟩
  · exact l a xs (.inr h)
  · rw [r.length]; simpa using hz
theorem sql_len {K : Frag} {H : Hp} {a : Addr} {xs : List V} (l : LenOk H) (h : SqL K H a xs) : xs.length ≤ sizeLine := by
  rcases h with h | ⟨o, its, n, _, _, _, _, hz, r⟩
  · exact l a xs (.inl h)
  · rw [r.length]; simpa using hz
structure EI (X : Cx) (C : Ct) (Γ : En X.K) (tg e : Expr) (c : Cod X.K α) (r : Option β) (J : List α → En X.K → Option β → Prop) : Prop where
  run : ∀ (z : β) σ W H (R : It → Hp → Prop), Sat C Γ σ W H → r = some z →
    (∀ xs Γ' r' W' H' It, J xs Γ' r' → r' = some z → Sat C Γ' σ W' H' → Same W W' → WalksX c W' xs It → R It H') → wpi X tg e σ H R
instance {X : Cx} {C : Ct} {α β : Type} {Γ : En X.K} {tg e : Expr} {c : Cod X.K α} {r : Option β} {J : List α → En X.K → Option β → Prop} : CoeFun (EI X C Γ tg e c r J) (fun _ => ∀ (z : β) σ W H (R : It → Hp → Prop), Sat C Γ σ W H → r = some z →
    (∀ xs Γ' r' W' H' It, J xs Γ' r' → r' = some z → Sat C Γ' σ W' H' → Same W W' → WalksX c W' xs It → R It H') → wpi X tg e σ H R) := ⟨EI.run⟩
variable {tg : Expr}
theorem ei_lst {c : Cod X.K α} {J : List α → En X.K → Option β → Prop} (h : EX X C Γ e (cLst c) r J) : EI X C Γ tg e c r J := .mk fun z σ W H R s hr k =>
  w_pi (pi_list pe_wL) (h z σ W H _ s hr fun x Γ1 r1 W1 H1 v j1 hr1 s1 w1 q1 lo => by
    obtain ⟨ad, vs, rfl, h2, h3⟩ := q1
    refine ⟨ad, rfl, ⟨vs, SqL.of (s1.sub _ _ h2)⟩, k x Γ1 r1 W1 H1 _ j1 hr1 s1 w1 ⟨by rw [← h3.length]; exact sql_len (K := X.K) lo (SqL.of (s1.sub _ _ h2)), fun i W2 H2 w2 sb => ⟨fun hi => ⟨vs, SqL.of (sb _ _ (w2 _ _ h2)), by rw [h3.length]; exact hi⟩, fun hi => ?_⟩⟩⟩
    have hs : SqL X.K H2 ad vs := SqL.of (sb _ _ (w2 _ _ h2))
    obtain ⟨v, e1, e2⟩ := h3.get (i := i) (x := x[i]) (by simp [hi])
    refine ⟨⟨vs, v, hs, e1⟩, fun v' H' ⟨eH, y⟩ => ?_⟩
    subst eH
    have ev := y vs hs
    rw [e1] at ev; cases ev
    exact ⟨W2, x[i], Grow.refl sb, by simp [hi], c.mono w2 e2⟩)
theorem ei_seq {c : Cod X.K α} {J : List α → En X.K → Option β → Prop} (h : EX X C Γ e (cSeq c) r J) : EI X C Γ tg e c r J := .mk fun z σ W H R s hr k =>
  w_pi (pi_tup pe_wL) (h z σ W H _ s hr fun x Γ1 r1 W1 H1 v j1 hr1 s1 w1 q1 lo => by
    obtain ⟨ad, vs, rfl, h2, h3⟩ := q1
    refine ⟨ad, rfl, ⟨vs, Same.tup s1.sub h2⟩, k x Γ1 r1 W1 H1 _ j1 hr1 s1 w1 ⟨by rw [← h3.length]; exact sqt_len lo (Same.tup s1.sub h2), fun i W2 H2 w2 sb => ⟨fun hi => ⟨vs, Same.tup sb (Same.tup w2 h2), by rw [h3.length]; exact hi⟩, fun hi => ?_⟩⟩⟩
    have hs : SqT X.K H2 ad vs := Same.tup sb (Same.tup w2 h2)
    obtain ⟨v, e1, e2⟩ := h3.get (i := i) (x := x[i]) (by simp [hi])
    refine ⟨⟨vs, v, hs, e1⟩, fun v' H' ⟨eH, y⟩ => ?_⟩
    subst eH
    have ev := y vs hs
    rw [e1] at ev; cases ev
    exact ⟨W2, x[i], Grow.refl sb, by simp [hi], c.mono w2 e2⟩)
theorem ei_scr {J : List Int → En X.K → Option β → Prop} (h : EX X C Γ e cScr r J) : EI X C Γ tg e cInt r J := .mk fun z σ W H R s hr k =>
  w_pi (pi_list pe_wL) (h z σ W H _ s hr fun x Γ1 r1 W1 H1 v j1 hr1 s1 w1 q1 lo => by
    obtain ⟨ad, rfl, h2⟩ := q1
    have h3 := Row.of_ints (K := X.K) (H := W1) x
    refine ⟨ad, rfl, ⟨_, Same.seq s1.sub h2⟩, k x Γ1 r1 W1 H1 _ j1 hr1 s1 w1 ⟨by rw [← h3.length]; exact sql_len lo (Same.seq s1.sub h2), fun i W2 H2 w2 sb => ⟨fun hi => ⟨_, Same.seq sb (Same.seq w2 h2), by rw [h3.length]; exact hi⟩, fun hi => ?_⟩⟩⟩
    have hs := Same.seq sb (Same.seq w2 h2)
    obtain ⟨v, e1, e2⟩ := h3.get (i := i) (x := x[i]) (by simp [hi])
    refine ⟨⟨_, v, hs, e1⟩, fun v' H' ⟨eH, y⟩ => ?_⟩
    subst eH
    have ev := y _ hs
    rw [e1] at ev; cases ev
    exact ⟨W2, x[i], Grow.refl sb, by simp [hi], e2⟩)
/-- lo, lo + 1, .. below hi -/
def rangeI (lo hi : Int) : List Int := (List.range (hi - lo).toNat).map fun i : Nat => lo + (i : Int)
def CRng (i : Int) : Prop := -8000000 ≤ i ∧ i ≤ 8000000
instance (i : Int) : Decidable (CRng i) := inferInstanceAs (Decidable (_ ∧ _))
def rng1 (n : Int) : Option (List Int) := if CRng n then some (rangeI 0 n) else none
def rng2 (i j : Int) : Option (List Int) := if CRng i ∧ CRng j then some (rangeI i j) else none
theorem walks_rng {W0 : Hp} (lo : Int) (hi : Int) (h1 : CRng lo) (h2 : CRng hi) : WalksX (X := X) cInt W0 (rangeI lo hi) (Itr lo (hi - lo).toNat) := by
  have hl : (rangeI lo hi).length = (hi - lo).toNat := by simp [rangeI]
  refine ⟨by rw [hl]; obtain ⟨a, b⟩ := h1; obtain ⟨c, d⟩ := h2; exact Nat.le_trans (show (hi - lo).toNat ≤ 16000000 by omega) (by decide), fun i W H w sb => ?_⟩
  rw [hl]
  refine ⟨fun h => h, fun h => ⟨h, fun v H' ⟨eH, ev⟩ => ?_⟩⟩
  subst eH
  exact ⟨W, lo + (i : Int), Grow.refl sb, by simp [rangeI, h], ev⟩
theorem ei_rng1 {J : List Int → En X.K → Option β → Prop} (hm : X.mg "range" = none) (h : EX X C Γ a cInt r fun n Γ1 r1 => ∃ k, r1 = rng1 n >>= k ∧ ∀ xs, J xs Γ1 (k xs)) (hg : Gl X "range" := by rfl) (hs : starEach [a] X.env = [(false, eval a X.env)] := by rfl) :
    EI X C Γ tg (.Call (.Name "range" p) [a] [] pos) cInt r J := .mk fun z σ W H R s hr k =>
  w_pi (pi_range1 hg hm (pa_cons pe_w pa_nil hs) hs) (h z σ W H _ s hr fun n Γ1 r1 W1 H1 v j1 hr1 s1 w1 q1 => by
    obtain ⟨k2, e2, j2⟩ := j1
    rw [e2] at hr1
    obtain ⟨t, et, ht⟩ := bind_some hr1
    unfold rng1 at et
    split at et
    · rename_i hc
      cases et
      obtain ⟨c1, c2⟩ := id hc
      refine ⟨n, by rw [show v = V.int n from q1], by omega, by omega, k _ Γ1 _ W1 H1 _ (j2 _) ht s1 w1 ?_⟩
      have := walks_rng (X := X) (W0 := W1) 0 n ⟨by decide, by decide⟩ hc
      rwa [Int.sub_zero] at this
    · cases et)
theorem ei_rng2 {J : List Int → En X.K → Option β → Prop} (hm : X.mg "range" = none) (h : EA X C Γ [a, b] (tcC cInt (tc1 cInt)) r fun n Γ1 r1 => ∃ k, r1 = rng2 n.1 n.2 >>= k ∧ ∀ xs, J xs Γ1 (k xs)) (hg : Gl X "range" := by rfl)
    (hs : starEach [a, b] X.env = [(false, eval a X.env), (false, eval b X.env)] := by rfl) (hs2 : starEach [b] X.env = [(false, eval b X.env)] := by rfl) :
    EI X C Γ tg (.Call (.Name "range" p) [a, b] [] pos) cInt r J := .mk fun z σ W H R s hr k =>
  w_pi (pi_range2 hg hm pa_w hs hs2) (h z σ W H _ s hr fun n Γ1 r1 W1 H1 vs j1 hr1 s1 w1 q1 => by
    obtain ⟨v1, r, rfl, q2, v2, rfl, q3⟩ := q1
    obtain ⟨k2, e2, j2⟩ := j1
    rw [e2] at hr1
    obtain ⟨t, et, ht⟩ := bind_some hr1
    unfold rng2 at et
    split at et
    · rename_i hc
      cases et
      cases q2; cases q3
      obtain ⟨⟨c1, c2⟩, ⟨c3, c4⟩⟩ := id hc
      exact ⟨n.1, n.2, rfl, ⟨by omega, by omega, by omega, by omega⟩, k _ Γ1 _ W1 H1 _ (j2 _) ht s1 w1 (walks_rng _ _ hc.1 hc.2)⟩
    · cases et)
/-- a loop that only goes on -/
def forS {S : Type} : List α → S → (α → S → Option S) → Option S
  | [], s, _ => some s
  | x :: xs, s, f => f x s >>= fun s' => forS xs s' f
/-- .. that may go back, out, again -/
def forF {S : Type} : List α → S → (α → S → Option (Fl S ρ)) → Option (Fl S ρ)
  | [], s, _ => some (.nx s)
  | x :: xs, s, f => f x s >>= fun o => match o with
    | .nx s' => forF xs s' f
    | .ct s' => forF xs s' f
    | .bk s' => some (.nx s')
    | .rt x => some (.rt x)
theorem gs_forS {S : Type} {c : Cod X.K α} {ws : List Nat} {up : En X.K → α → En X.K} (Γs : S → En X.K) (hc : X.calm = true) (hg : AG X C tg c ws up)
    (h : EI X C Γ tg e c r fun xs Γ1 r1 => ∃ s0 f k, r1 = forS xs s0 f >>= k ∧ Wk C Γ1 (Γs s0) ∧ (∀ x s, GK X C (wpB X sts) (up (Γs s) x) (f x s) { goS C Γs with ct := (goS C Γs).nx }) ∧ ∀ s, T.nx (Γs s) (k s))
    (hp : PassesOwn (model X.prog X.w) X.A X.env X.xe) (hs : ∀ x, foldedSetIterable e X.env x = pure x := by intro _; rfl) : GK X C (wpS X (.For tg e sts [] pos)) Γ r T := GK.mk fun z σ W H D s hr kn kb kc kr =>
  w_ps (ps_for hp hc pi_w pg_w pss_w hs) (h z σ W H _ s hr fun xs Γ1 r1 W1 H1 It j1 hr1 s1 w1 wk => by
    obtain ⟨s0, f, k, e1, g0, body, hk⟩ := j1
    rw [e1] at hr1
    obtain ⟨t, f1, f2⟩ := bind_some hr1
    refine ⟨fun i m σ H => m = xs.length - i ∧ i ≤ xs.length ∧ ∃ s W', forS (xs.drop i) s f = some t ∧ Sat C (Γs s) σ W' H ∧ Same W1 W', ⟨xs.length, ?_⟩, ?_⟩
    · obtain ⟨W2, w2, s2⟩ := g0 σ W1 H1 s1
      exact ⟨by simp, Nat.zero_le _, s0, W2, by simpa using f1, s2, w2⟩
    · rintro i m σ2 H2 ⟨rfl, hi, s2, W2, f3, sat2, w2⟩
      obtain ⟨st, gg⟩ := wk.at_ i W2 H2 w2 sat2.sub
      by_cases hl : i < xs.length
      · obtain ⟨go, yy⟩ := gg hl
        have ed : xs.drop i = xs[i] :: xs.drop (i + 1) := List.drop_eq_getElem_cons hl
        rw [ed] at f3
        obtain ⟨s3, f4, f5⟩ := bind_some (show f xs[i] s2 >>= _ = some t from f3)
        refine .inr ⟨go, fun σ' H' => ∃ s W', forS (xs.drop (i + 1)) s f = some t ∧ Sat C (Γs s) σ' W' H' ∧ Same W1 W', fun σ' H' q => ⟨xs.length - (i + 1), by omega, rfl, hl, q⟩, fun v H3 y => ?_⟩
        obtain ⟨W3, x, G, ex, rx⟩ := yy v H3 y
        have ex' : xs[i] = x := by rw [List.getElem?_eq_getElem hl] at ex; exact Option.some.inj ex
        subst ex'
        refine hg.run (Γs s2) σ2 W3 H3 v xs[i] _ (sat2.grow G) rx fun σ4 s4 _ => ?_
        have fin : ∀ (Γ' : En X.K) (r' : Option S) (σ' : L2.St) (W' H' : Hp), (goS C Γs).nx Γ' r' → r' = some s3 → Sat C Γ' σ' W' H' → Same W3 W' → ∃ s W', forS (xs.drop (i + 1)) s f = some t ∧ Sat C (Γs s) σ' W' H' ∧ Same W1 W' := fun Γ' r' σ' W' H' j hr' s' w' => by
          obtain ⟨s5, e5, g5⟩ := j
          rw [hr'] at e5; cases e5
          obtain ⟨W6, w6, s6⟩ := g5 σ' W' H' s'
          exact ⟨s3, W6, f5, s6, ((w2.trans G.w).trans w').trans w6⟩
        exact body xs[i] s2 s3 σ4 W3 H3 _ s4 f4 (fun Γ' r' σ' W' H' j hr' s' w' => fin Γ' r' σ' W' H' j hr' s' w') (fun _ _ _ _ _ f => f.elim) (fun Γ' r' σ' W' H' j hr' s' w' => fin Γ' r' σ' W' H' j hr' s' w') fun x => x.elim
      · have ei : i = xs.length := by omega
        subst ei
        rw [List.drop_length] at f3
        have f3 : some s2 = some t := f3
        cases f3
        exact .inl ⟨st (Nat.le_refl _), kn _ _ σ2 W2 H2 (hk _) f2 sat2 (w1.trans w2)⟩)
theorem gs_forF {S : Type} {c : Cod X.K α} {ws : List Nat} {up : En X.K → α → En X.K} (Γs : S → En X.K) (hc : X.calm = true) (hg : AG X C tg c ws up)
    (h : EI X C Γ tg e c r fun xs Γ1 r1 => ∃ s0 f k, r1 = forF xs s0 f >>= k ∧ Wk C Γ1 (Γs s0) ∧ (∀ x s, GK X C (wpB X sts) (up (Γs s) x) (f x s) (goF C T.R Γs)) ∧ (∀ s, T.nx (Γs s) (k (.nx s))) ∧ ∀ x, k (.rt x) = some (T.ret x))
    (hp : PassesOwn (model X.prog X.w) X.A X.env X.xe) (hs : ∀ x, foldedSetIterable e X.env x = pure x := by intro _; rfl) : GK X C (wpS X (.For tg e sts [] pos)) Γ r T := GK.mk fun z σ W H D s hr kn kb kc kr =>
  w_ps (ps_for hp hc pi_w pg_w pss_w hs) (h z σ W H _ s hr fun xs Γ1 r1 W1 H1 It j1 hr1 s1 w1 wk => by
    obtain ⟨s0, f, k, e1, g0, body, hk, hret⟩ := j1
    rw [e1] at hr1
    obtain ⟨t, f1, f2⟩ := bind_some hr1
    refine ⟨fun i m σ H => m = xs.length - i ∧ i ≤ xs.length ∧ ∃ s W', forF (xs.drop i) s f = some t ∧ Sat C (Γs s) σ W' H ∧ Same W1 W', ⟨xs.length, ?_⟩, ?_⟩
    · obtain ⟨W2, w2, s2⟩ := g0 σ W1 H1 s1
      exact ⟨by simp, Nat.zero_le _, s0, W2, by simpa using f1, s2, w2⟩
    · rintro i m σ2 H2 ⟨rfl, hi, s2, W2, f3, sat2, w2⟩
      obtain ⟨st, gg⟩ := wk.at_ i W2 H2 w2 sat2.sub
      by_cases hl : i < xs.length
      · obtain ⟨go, yy⟩ := gg hl
        have ed : xs.drop i = xs[i] :: xs.drop (i + 1) := List.drop_eq_getElem_cons hl
        rw [ed] at f3
        obtain ⟨o, f4, f5⟩ := bind_some (show f xs[i] s2 >>= _ = some t from f3)
        refine .inr ⟨go, fun σ' H' => ∃ s W', forF (xs.drop (i + 1)) s f = some t ∧ Sat C (Γs s) σ' W' H' ∧ Same W1 W', fun σ' H' q => ⟨xs.length - (i + 1), by omega, rfl, hl, q⟩, fun v H3 y => ?_⟩
        obtain ⟨W3, x, G, ex, rx⟩ := yy v H3 y
        have ex' : xs[i] = x := by rw [List.getElem?_eq_getElem hl] at ex; exact Option.some.inj ex
        subst ex'
        refine hg.run (Γs s2) σ2 W3 H3 v xs[i] _ (sat2.grow G) rx fun σ4 s4 _ => ?_
        refine body xs[i] s2 o σ4 W3 H3 _ s4 f4 (fun Γ' r' σ' W' H' j hr' s' w' => ?_) (fun Γ' r' σ' W' H' j hr' s' w' => ?_) (fun Γ' r' σ' W' H' j hr' s' w' => ?_) fun x v Γ' σ' W' H' e' s' w' q' => ?_
        · obtain ⟨s5, e5, g5⟩ := j
          rw [hr'] at e5; cases e5
          obtain ⟨W6, w6, s6⟩ := g5 σ' W' H' s'
          exact ⟨s5, W6, f5, s6, ((w2.trans G.w).trans w').trans w6⟩
        · obtain ⟨s5, e5, g5⟩ := j
          rw [hr'] at e5; cases e5
          have f5 : some (Fl.nx s5) = some t := f5
          cases f5
          obtain ⟨W6, w6, s6⟩ := g5 σ' W' H' s'
          exact kn _ _ σ' W6 H' (hk s5) f2 s6 (w1.trans (((w2.trans G.w).trans w').trans w6))
        · obtain ⟨s5, e5, g5⟩ := j
          rw [hr'] at e5; cases e5
          obtain ⟨W6, w6, s6⟩ := g5 σ' W' H' s'
          exact ⟨s5, W6, f5, s6, ((w2.trans G.w).trans w').trans w6⟩
        · have e' : Fl.rt x = o := e'
          subst e'
          have f5 : some (Fl.rt x) = some t := f5
          cases f5
          rw [hret x] at f2
          exact kr x v Γ' σ' W' H' (Option.some.inj f2) s' (w1.trans ((w2.trans G.w).trans w')) q'
      · have ei : i = xs.length := by omega
        subst ei
        rw [List.drop_length] at f3
        have f3 : some (Fl.nx s2) = some t := f3
        cases f3
        exact .inl ⟨st (Nat.le_refl _), kn _ _ σ2 W2 H2 (hk s2) f2 sat2 (w1.trans w2)⟩)
end
end Ty

set_option maxHeartbeats 4000000
namespace Ty
open PySem PySem.Spec PyProof.Rows L2

/-! ### comprehensions -/
section
variable {α β S : Type}
/-- [f x for x in xs if t x], a state handed on -/
def lcG (t : α → S → Option (Bool × S)) (f : α → S → Option (β × S)) : List α → S → Option (List β × S)
  | [], s => some ([], s)
  | x :: xs, s => t x s >>= fun b => cond b.1 (f x b.2 >>= fun y => lcG t f xs y.2 >>= fun ys => some (y.1 :: ys.1, ys.2)) (lcG t f xs b.2)
def mapR (f : α → Option β) : List α → Option (List β)
  | [] => some []
  | x :: xs => f x >>= fun y => mapR f xs >>= fun ys => some (y :: ys)
def fltR (t : α → Option Bool) (f : α → Option β) : List α → Option (List β)
  | [] => some []
  | x :: xs => t x >>= fun b => cond b (f x >>= fun y => fltR t f xs >>= fun ys => some (y :: ys)) (fltR t f xs)
def mapS (f : α → S → Option (β × S)) : List α → S → Option (List β × S)
  | [], s => some ([], s)
  | x :: xs, s => f x s >>= fun y => mapS f xs y.2 >>= fun ys => some (y.1 :: ys.1, ys.2)
theorem obind_some {γ δ : Type} (a : γ) (k : γ → Option δ) : (some a >>= k) = k a := rfl
theorem lcG_map (f : α → Option β) : ∀ (xs : List α), lcG (fun _ s => some (true, s)) (fun x (s : Unit) => f x >>= fun y => some (y, s)) xs () = mapR f xs >>= fun ys => some (ys, ())
  | [] => rfl
  | x :: xs => by
    unfold lcG mapR
    simp only [obind_some, cond_true]
    cases f x with
    | none => rfl
    | some y =>
      simp only [obind_some]
      rw [lcG_map f xs]
      cases mapR f xs <;> rfl
theorem lcG_flt (t : α → Option Bool) (f : α → Option β) : ∀ (xs : List α), lcG (fun x s => t x >>= fun b => some (b, s)) (fun x (s : Unit) => f x >>= fun y => some (y, s)) xs () = fltR t f xs >>= fun ys => some (ys, ())
  | [] => rfl
  | x :: xs => by
    unfold lcG fltR
    cases t x with
    | none => rfl
    | some b =>
      simp only [obind_some]
      cases b with
      | false =>
        simp only [cond_false]
        exact lcG_flt t f xs
      | true =>
        simp only [cond_true]
        cases f x with
        | none => rfl
        | some y =>
          simp only [obind_some]
          rw [lcG_flt t f xs]
          cases fltR t f xs <;> rfl
theorem lcG_mapS (f : α → S → Option (β × S)) : ∀ (xs : List α) (s : S), lcG (fun _ s => some (true, s)) f xs s = mapS f xs s
  | [], s => rfl
  | x :: xs, s => by
    unfold lcG mapS
    simp only [obind_some, cond_true]
    congr 1
    funext y
    rw [lcG_mapS f xs]
theorem lcG_len {t : α → S → Option (Bool × S)} {f : α → S → Option (β × S)} : ∀ {xs : List α} {s : S} {z : List β × S}, lcG t f xs s = some z → z.1.length ≤ xs.length
  | [], s, z, h => by cases h; exact Nat.le_refl _
  | x :: xs, s, z, h => by
    obtain ⟨b, _, h2⟩ := bind_some (show t x s >>= _ = some z from h)
    cases hb : b.1 with
    | true =>
      rw [hb] at h2
      obtain ⟨y, _, h3⟩ := bind_some h2
      obtain ⟨ys, h4, h5⟩ := bind_some h3
      cases h5
      have := lcG_len h4
      simp only [List.length_cons]; omega
    | false =>
      rw [hb] at h2
      have := lcG_len (show lcG t f xs b.2 = some z from h2)
      simp only [List.length_cons]; omega
end
section
variable {X : Cx} {C : Ct} {ρ α β γ : Type} {Γ : En X.K} {tg elt e a b : Expr} {ifs es : List Expr} {r : Option ρ} {scope : Scope} {own' : List (Str × Nat)} {pos p p2 p3 : Pos}
def tsts (ifs : List Expr) (env : Env) : Sem Bool := forIn ifs true fun c r => if r = true then do let ok ← isTrue c env (eval c env); pure (ForInStep.yield ok) else pure (ForInStep.yield r)
/-- the tests of a comprehension -/
def EQ (X : Cx) (C : Ct) {ρ : Type} (Γ : En X.K) (es : List Expr) (r : Option ρ) (J : Bool → En X.K → Option ρ → Prop) : Prop :=
  ∀ (z : ρ) σ W H (Q : Bool → Hp → Prop), Sat C Γ σ W H → r = some z →
    (∀ x Γ' r' W' H', J x Γ' r' → r' = some z → Sat C Γ' σ W' H' → Same W W' → Q x H') → ∀ pins s, Inv X pins σ H s → wpAny (model X.prog X.w) X.A (tsts es X.env) (TP X pins σ Q) X.xe s
theorem eq_nil {J : Bool → En X.K → Option ρ → Prop} (h : J true Γ r) : EQ X C Γ [] r J := fun z σ W H Q s hr k pins sh I => pts_nil.run pins sh σ H Q I (k true Γ r W H h hr s (Same.refl _))
theorem eq_one {J : Bool → En X.K → Option ρ → Prop} (h : ET X C Γ e r J) : EQ X C Γ [e] r J := fun z σ W H Q s hr k pins sh I => (pts_one pt_w).run pins sh σ H Q I (h z σ W H Q s hr k)
/-- the context of a comprehension's block -/
abbrev bx (X : Cx) (scope : Scope) (s : Shared) (H : Hp) (Cc : Addr) (cl : List (Str × Addr)) (fp : List Addr) : Cx := X.blk s H scope (compEnvC scope cl Cc X.env) fp
theorem bind_val {δ : Type} (t : δ) (k : δ → Option ρ) : (some t >>= k) = k t := rfl
/-- [elt for tg in e if ..] gives a new list -/
def LC (X : Cx) (C : Ct) {ρ β : Type} (Γ : En X.K) (elt tg e : Expr) (ifs : List Expr) (scope : Scope) (d : Cod X.K β) (r : Option ρ) (J : List β → En X.K → Option ρ → Prop) : Prop :=
  ∃ (own' : List (Str × Nat)) (wi : TI) (g : TG) (tt : TT) (te : TE), BlkOk X.N X.env.scope scope own' ∧ PI X tg e wi ∧ (∀ sh H Cc cl fp, PG (bx X scope sh H Cc cl fp) tg g) ∧ (∀ sh H Cc cl fp, PTs (bx X scope sh H Cc cl fp) ifs tt) ∧
    (∀ sh H Cc cl fp, PE (bx X scope sh H Cc cl fp) elt te) ∧ (∀ x, foldedSetIterable e X.env x = pure x) ∧
    ∀ (z : ρ) σ W H (Q : VK), Sat C Γ σ W H → r = some z →
      (∀ x Γ' r' W' H' p o, J x Γ' r' → r' = some z → Sat C Γ' σ W' H' → Same W W' → W' p = none → C.H p = none → H' p = some o → (lstC d).ct W' o x → Apart Γ' σ p → C.a ≠ some p → Q (.ref p) H') → tLc wi g tt te (own'.map (·.2)) σ H Q
theorem ef_lc {d : Cod X.K β} {J : List β → En X.K → Option ρ → Prop} (hc : X.calm = true) (hnd : X.N.Nodup) (h : LC X C Γ elt tg e ifs scope d r J) : EF X C Γ (.ListComp elt [⟨tg, e, ifs, 0⟩] scope pos) (lstC d) r J := by
  obtain ⟨own', wi, g, tt, te, ok, hi, hg, ht, he, hs, hq⟩ := h
  exact .mk fun z σ W H Q s hr k => w_pe (pe_lc hc hnd hi ok hg ht he hs) (hq z σ W H Q s hr k)
theorem gs_setLc {β' ρ' : Type} {r : Option β'} {T : Go X.K ρ' β'} {d : Cod X.K β} {y : Str} {py spos : Pos} (i : Nat) (hc : X.calm = true) (hnd : X.N.Nodup) (h : LC X C Γ elt tg e ifs scope d r fun x Γ1 r1 => T.nx (Γ1.set i (.ow (lstC d) x)) r1) (hy : X.N[i]? = some y := by rfl) (hyl : X.env.scope.names.lookup y = some .local := by rfl)
    (hsw : swapsWith (.ListComp elt [⟨tg, e, ifs, 0⟩] scope pos) (some (.Name y py)) spos.line X.env = pure true := by exact sw_true rfl rfl rfl (by decide +kernel)) : GK X C (wpS X (.Assign [.Name y py] (.ListComp elt [⟨tg, e, ifs, 0⟩] scope pos) spos)) Γ r T := by
  obtain ⟨own', wi, g, tt, te, ok, hi, hg, ht, he, hs, hq⟩ := h
  exact GK.mk fun z σ W H D s hr kn kb kc kr pins sh I => by
    have hl : i < σ.length := set_len (n := 0) I.len hy
    exact (ps_setLc hc hnd hy hyl hsw hi ok hg ht he hs).run pins sh σ H D I (hq z σ W H _ s hr fun x Γ1 r1 W1 H1 p o j1 hr1 s1 w1 wp cp hp ct ap la => kn _ r1 _ W1 H1 j1 hr1 (s1.take hl wp (.inl cp) hp ct ap la) w1)
/-- .. that stands still from now on -/
theorem gs_setLcV {β' ρ' : Type} {r : Option β'} {T : Go X.K ρ' β'} {d : Cod X.K β} {y : Str} {py spos : Pos} (i : Nat) (hc : X.calm = true) (hnd : X.N.Nodup) (hB : ∀ a, ¬ C.B a) (h : LC X C Γ elt tg e ifs scope d r fun x Γ1 r1 => i < Γ1.length ∧ T.nx (Γ1.set i (.im (cLst d) x)) r1) (hy : X.N[i]? = some y := by rfl) (hyl : X.env.scope.names.lookup y = some .local := by rfl)
    (hsw : swapsWith (.ListComp elt [⟨tg, e, ifs, 0⟩] scope pos) (some (.Name y py)) spos.line X.env = pure true := by exact sw_true rfl rfl rfl (by decide +kernel)) : GK X C (wpS X (.Assign [.Name y py] (.ListComp elt [⟨tg, e, ifs, 0⟩] scope pos) spos)) Γ r T := by
  obtain ⟨own', wi, g, tt, te, ok, hi, hg, ht, he, hs, hq⟩ := h
  exact GK.mk fun z σ W H D s hr kn kb kc kr pins sh I => by
    have hl : i < σ.length := set_len (n := 0) I.len hy
    refine (ps_setLc hc hnd hy hyl hsw hi ok hg ht he hs).run pins sh σ H D I (hq z σ W H _ s hr fun x Γ1 r1 W1 H1 p o j1 hr1 s1 w1 wp cp hp ct ap la => ?_)
    obtain ⟨hlen, j1⟩ := j1
    have t := s1.take hl wp (.inl cp) hp ct ap la
    obtain ⟨W2, w2, s2⟩ := t.freeze (i := i) (c := d) (xs := x) (by rw [List.getElem?_set_self hlen]) fun a z => absurd z (hB a)
    rw [List.set_set] at s2
    exact kn _ r1 _ W2 H1 j1 hr1 s2 (w1.trans w2)
theorem lc_G {S : Type} {c : Cod X.K α} {d : Cod X.K β} {ws : List Nat} {up : En X.K → α → En X.K} {J : List β → En X.K → Option ρ → Prop} (ok : BlkOk X.N X.env.scope scope own')
    (h : EI X C Γ tg e c r fun xs Γ1 r1 => ∃ (Γs : S → En X.K), ∃ t f s0 k, r1 = lcG t f xs s0 >>= k ∧ Wk C Γ1 (drops (own'.map (·.2)) (Γs s0)) ∧ (∀ s, drops (own'.map (·.2)) (Γs s) = Γs s) ∧ (∀ z, J z.1 (Γs z.2) (k z)) ∧
      (∀ (C' : Ct) sh H Cc cl fp x s, EQ (bx X scope sh H Cc cl fp) C' (up (Γs s) x) ifs (t x s) fun b' Γ2 r2 => ∃ s2, r2 = some (b', s2) ∧ Wk C' Γ2 (up (Γs s2) x)) ∧
      (∀ (C' : Ct) sh H Cc cl fp x s, EX (bx X scope sh H Cc cl fp) C' (up (Γs s) x) elt d (f x s) fun y Γ2 r2 => ∃ s2, r2 = some (y, s2) ∧ Wk C' Γ2 (Γs s2)))
    (hg : ∀ (C' : Ct) sh H Cc cl fp, AG (bx X scope sh H Cc cl fp) C' tg c ws up) (hws : ∀ i ∈ ws, i ∈ own'.map (·.2) := by decide)
    (hs : ∀ x, foldedSetIterable e X.env x = pure x := by intro _; rfl) : LC X C Γ elt tg e ifs scope d r J := by
  -- the readings of the block's parts, whatever they are asked
  refine ⟨own', wpi X tg e, fun v σ1 H1 Q1 => ∀ sh H0 Cc cl fp, wpg (bx X scope sh H0 Cc cl fp) tg v σ1 H1 Q1,
    fun σ1 H1 Q1 => ∀ sh H0 Cc cl fp pins s', Inv (bx X scope sh H0 Cc cl fp) pins σ1 H1 s' → wpAny (model X.prog X.w) X.A (tsts ifs (bx X scope sh H0 Cc cl fp).env) (TP (bx X scope sh H0 Cc cl fp) pins σ1 Q1) (bx X scope sh H0 Cc cl fp).xe s',
    fun σ1 H1 Q1 => ∀ sh H0 Cc cl fp, wpe (bx X scope sh H0 Cc cl fp) elt σ1 H1 Q1,
    ok, pi_w, fun sh H0 Cc cl fp => ⟨fun pins s σ H v u Q I r h => h sh H0 Cc cl fp pins s u I r⟩, fun sh H0 Cc cl fp => ⟨fun pins s σ H Q I h => h sh H0 Cc cl fp pins s I⟩,
    fun sh H0 Cc cl fp => ⟨fun pins s σ H Q I h => h sh H0 Cc cl fp pins s I⟩, hs, fun z σ W H Q sat hr kk => ?_⟩
  refine h z σ W H _ sat hr fun xs Γ1 r1 W1 H1 It j1 hr1 s1 w1 wk => ?_
  have hlen := wk.len
  obtain ⟨Γs, t, f, s0, k, e1, g0, hdr, hk, htest, helt⟩ := j1
  have hup : ∀ (C' : Ct) sh H Cc cl fp s x, AG (bx X scope sh H Cc cl fp) C' tg c ws up → Wk C' (up (Γs s) x) (Γs s) := fun C' sh H Cc cl fp s x ag => by
    have q := wk_drops' (C := C') (own'.map (·.2)) (Γ := up (Γs s) x)
    rw [show drops (own'.map (·.2)) (up (Γs s) x) = Γs s from (ag.dr (Γs s) x _ hws).trans (hdr s)] at q
    exact q
  intro D hD
  rw [e1] at hr1
  obtain ⟨zz, f1, f2⟩ := bind_some hr1
  obtain ⟨W2, w2, s2⟩ := g0 σ W1 H1 s1
  rw [hdr] at s2
  obtain ⟨s3, wD, cD, apD, laD⟩ := s2.fresh (o := HO.lst []) hD
  have bD : ¬ C.B D := fun z => s2.lb D (.inl z) hD
  refine ⟨fun i m H' => m = xs.length - i ∧ i ≤ xs.length ∧ ∃ s acc ys rest W', lcG t f (xs.drop i) s = some rest ∧ zz = (ys ++ rest.1, rest.2) ∧ H' D = some (.lst acc) ∧ W' D = none ∧ Apart (Γs s) σ D ∧ Row d W' acc ys ∧ ys.length ≤ i ∧ Same W2 W' ∧ Sat C (Γs s) σ W' H', ⟨xs.length, ?_⟩, ?_⟩
  · exact ⟨by simp, Nat.zero_le _, s0, [], [], zz, W2, by simpa using f1, by simp, upd_same, wD, apD, .nil, Nat.le_refl _, Same.refl _, s3⟩
  rintro i m H' ⟨rfl, hi, s, acc, ys, rest, W', g1, g2, hD', wD', ap', row, hy, w', sat'⟩
  obtain ⟨stop, gg⟩ := wk.at_ i W' H' (w2.trans w') sat'.sub
  by_cases hl : i < xs.length
  · obtain ⟨go, yy⟩ := gg hl
    have ed : xs.drop i = xs[i] :: xs.drop (i + 1) := List.drop_eq_getElem_cons hl
    rw [ed] at g1
    obtain ⟨b1, t1, t2⟩ := bind_some (show t xs[i] s >>= _ = some rest from g1)
    refine .inr ⟨go, fun H' => ∃ s acc ys rest W', lcG t f (xs.drop (i + 1)) s = some rest ∧ zz = (ys ++ rest.1, rest.2) ∧ H' D = some (.lst acc) ∧ W' D = none ∧ Apart (Γs s) σ D ∧ Row d W' acc ys ∧ ys.length ≤ i + 1 ∧ Same W2 W' ∧ Sat C (Γs s) σ W' H',
      fun H' q => ⟨xs.length - (i + 1), by omega, rfl, hl, q⟩, fun v H3 y => ?_⟩
    obtain ⟨W3, x, G, ex, rx⟩ := yy v H3 y
    have ex' : xs[i] = x := by rw [List.getElem?_eq_getElem hl] at ex; exact Option.some.inj ex
    subst ex'
    have sat3 := sat'.grow G
    have hD3 := G.h _ _ hD'
    have wD3 := G.nw D (by rw [hD']; simp) wD'
    -- the block's own context: all that stands stays
    have into := sat3.into
    have wp0 : Sat (inner C (Γs s) σ W3 H3) (Γs s) (L2.wipe σ (own'.map (·.2))) W3 H3 := by
      have q := into.wipe (own'.map (·.2))
      rw [show drops0 (own'.map (·.2)) (Γs s) = Γs s from hdr s] at q
      exact q
    intro sh H0 Cc cl fp
    refine (hg (inner C (Γs s) σ W3 H3) sh H0 Cc cl fp).run (Γs s) (L2.wipe σ (own'.map (·.2))) W3 H3 v xs[i] _ wp0 rx fun σ4 s4 ag => ?_
    have hw : L2.wipe σ4 (own'.map (·.2)) = L2.wipe σ (own'.map (·.2)) := by
      rw [ag.wipe hws]
      have idem : ∀ (vs us : List Nat) (τ : L2.St), (∀ i ∈ us, i ∈ vs) → L2.wipe (L2.wipe τ us) vs = L2.wipe τ vs := fun vs us τ hs => by
        apply List.ext_getElem?
        intro j
        have one : ∀ (τ : L2.St) (vs : List Nat), j ∈ vs → (L2.wipe τ vs)[j]? = if j < τ.length then some none else none := by
          intro τ vs
          induction vs with
          | nil => intro h; cases h
          | cons v vs ih =>
            intro hm
            show ((L2.wipe τ vs).set v none)[j]? = _
            by_cases hv : j = v
            · subst hv
              rw [List.getElem?_set]
              simp [wipe_length]
            · rw [List.getElem?_set_ne (Ne.symm hv)]
              exact ih ((List.mem_cons.mp hm).resolve_left hv)
        by_cases hj : j ∈ vs
        · rw [one _ vs hj, one _ vs hj, wipe_length]
        · rw [wipe_get hj, wipe_get hj, wipe_get fun z => hj (hs j z)]
      exact idem _ _ σ fun i h => h
    refine ⟨hw, fun sh H0 Cc cl fp pins s' I => ?_⟩
    refine htest (inner C (Γs s) σ W3 H3) sh H0 Cc cl fp xs[i] s b1 σ4 W3 H3 _ s4 t1 (fun bb Γ5 r5 W5 H5 j5 hr5 s5 w5 => ?_) pins s' I
    obtain ⟨s6, e6, wk6⟩ := j5
    rw [hr5] at e6; cases e6
    obtain ⟨W6, w6, sat6⟩ := wk6 σ4 W5 H5 s5
    -- back to the def's context at a turn's end
    have back : ∀ {s7 : S} {W7 H7 : Hp}, Sat (inner C (Γs s) σ W3 H3) (Γs s7) σ4 W7 H7 → Sat C (Γs s7) σ W7 H7 ∧ H7 D = some (.lst acc) ∧ W7 D = none ∧ Apart (Γs s7) σ D := fun {s7 W7 H7} q => by
      have q1 := q.wipe (own'.map (·.2))
      rw [hw] at q1
      have q2 := q1.unwipe
      rw [show drops0 (own'.map (·.2)) (Γs s7) = Γs s7 from hdr s7] at q2
      have nB : ¬ (inner C (Γs s) σ W3 H3).B D := fun z => by
        rcases z with z | ⟨j, oj, ej⟩
        · exact bD z
        · exact ap' j oj ej
      refine ⟨sat3.outof q2, q2.fr D _ hD3 nB laD, q2.nw D (by show H3 D ≠ none; rw [hD3]; simp) wD3, fun j oj ej => ?_⟩
      obtain ⟨ee, h1, h2⟩ := oj
      cases ee with
      | no => cases h2
      | im c x => cases h2
      | ow c x =>
        obtain ⟨ad, o, e1, e2, e3, e4, e5⟩ := q2.sl j _ h1
        have ea := getD_some e1
        rw [ej] at ea; cases ea
        rcases e3 with e3 | e3
        · rw [show (inner C (Γs s) σ W3 H3).H D = H3 D from rfl, hD3] at e3; cases e3
        · exact nB e3
      | lp => cases h2
      | ln c x => cases h2
    cases bb with
    | false =>
      rw [if_neg Bool.false_ne_true]
      obtain ⟨W7, w7, sat7⟩ := hup (inner C (Γs s) σ W3 H3) sh H0 Cc cl fp s6 xs[i] (hg _ sh H0 Cc cl fp) σ4 W6 H5 sat6
      obtain ⟨b1', b2, b3, b4⟩ := back sat7
      have ww : Same W' W7 := (((G.w).trans w5).trans w6).trans w7
      exact ⟨s6, acc, ys, rest, W7, t2, g2, b2, b3, b4, row.mono ww, Nat.le_succ_of_le hy, w'.trans ww, b1'⟩
    | true =>
      rw [if_pos rfl]
      obtain ⟨y1, t3, t4⟩ := bind_some (show f xs[i] s6 >>= _ = some rest from t2)
      obtain ⟨ys', t5, t6⟩ := bind_some t4
      cases t6
      intro sh H0 Cc cl fp
      refine helt (inner C (Γs s) σ W3 H3) sh H0 Cc cl fp xs[i] s6 y1 σ4 W6 H5 _ sat6 t3 fun yv Γ7 r7 W7 H7 v7 j7 hr7 s7 w7 q7 => ?_
      obtain ⟨s8, e8, wk8⟩ := j7
      rw [hr7] at e8; cases e8
      obtain ⟨W8, w8, sat8⟩ := wk8 σ4 W7 H7 s7
      obtain ⟨b1', b2, b3, b4⟩ := back sat8
      have ww : Same W' W8 := ((((G.w).trans w5).trans w6).trans w7).trans w8
      have row8 := (row.mono ww).append (Row.cons (d.mono w8 q7) .nil)
      refine ⟨acc, b2, ?_, s8, acc ++ [v7], ys ++ [yv], ys', W8, t5, ?_, upd_same, b3, b4, row8, ?_, w'.trans ww, b1'.side cD b3 b4 laD⟩
      · rw [row.length]
        exact Nat.lt_of_lt_of_le (Nat.lt_of_le_of_lt hy hl) hlen
      · rw [g2]; simp
      · simp; omega
  · have ei : i = xs.length := by omega
    subst ei
    rw [List.drop_length] at g1
    have g1 : some (([] : List β), s) = some rest := g1
    cases g1
    refine .inl ⟨stop (Nat.le_refl _), ?_⟩
    have hz : zz = (ys, s) := by rw [g2]; simp
    subst hz
    exact kk ys _ _ W' H' D _ (hk (ys, s)) f2 sat' ((w1.trans w2).trans w') wD' cD hD' ⟨acc, rfl, row⟩ ap' laD
end
end Ty

set_option maxHeartbeats 4000000
namespace Ty
open PySem PySem.Spec PyProof.Rows L2

section
variable {X : Cx} {C : Ct} {ρ α β γ : Type} {Γ : En X.K} {tg elt e a b : Expr} {es : List Expr} {r : Option ρ} {scope : Scope} {own' : List (Str × Nat)} {pos p p2 p3 apos cpos : Pos}
theorem ei_imp {c : Cod X.K α} {J J' : List α → En X.K → Option ρ → Prop} (h : EI X C Γ tg e c r J) (hj : ∀ x Γ' r', J x Γ' r' → J' x Γ' r') : EI X C Γ tg e c r J' := .mk fun z σ W H R s hr k => h z σ W H R s hr fun xs Γ' r' W' H' It j => k xs Γ' r' W' H' It (hj _ _ _ j)
/-- [f x for x in xs] -/
theorem lc_map {c : Cod X.K α} {d : Cod X.K β} {ws : List Nat} {up : En X.K → α → En X.K} {J : List β → En X.K → Option ρ → Prop} (ok : BlkOk X.N X.env.scope scope own')
    (hg : ∀ (C' : Ct) sh H Cc cl fp, AG (bx X scope sh H Cc cl fp) C' tg c ws up)
    (h : EI X C Γ tg e c r fun xs Γ1 r1 => ∃ f k, r1 = mapR f xs >>= k ∧ (∀ ys, J ys (drops (own'.map (·.2)) Γ1) (k ys)) ∧
      (∀ (C' : Ct) sh H Cc cl fp x, EX (bx X scope sh H Cc cl fp) C' (up (drops (own'.map (·.2)) Γ1) x) elt d (f x) fun y Γ2 r2 => r2 = some y ∧ Wk C' Γ2 (up (drops (own'.map (·.2)) Γ1) x)))
    (hws : ∀ i ∈ ws, i ∈ own'.map (·.2) := by decide) (hs : ∀ x, foldedSetIterable e X.env x = pure x := by intro _; rfl) : LC X C Γ elt tg e [] scope d r J := by
  refine lc_G (S := Unit) ok (ei_imp h fun xs Γ1 r1 j => ?_) hg hws hs
  obtain ⟨f, k, e1, hk, hb⟩ := j
  have idm : drops (own'.map (·.2)) (drops (own'.map (·.2)) Γ1) = drops (own'.map (·.2)) Γ1 := drops_idem _ _ _ fun _ h => h
  refine ⟨fun _ => drops (own'.map (·.2)) Γ1, fun _ s => some (true, s), fun x s => f x >>= fun y => some (y, s), (), fun z => k z.1, ?_, ?_, fun _ => idm, fun z => hk z.1, fun C' sh H Cc cl fp x s => ?_, fun C' sh H Cc cl fp x s => ?_⟩
  · rw [e1, lcG_map]
    cases mapR f xs <;> rfl
  · rw [idm]; exact wk_drops' _
  · exact eq_nil ⟨s, rfl, wk_refl⟩
  · refine .mk fun z σ W H' Q sat hr kk => ?_
    obtain ⟨y, e2, e3⟩ := bind_some hr
    refine (hb C' sh H Cc cl fp x).run y σ W H' Q sat e2 fun y' Γ2 r2 W2 H2 v j2 hr2 s2 w2 q2 => ?_
    obtain ⟨e4, wk⟩ := j2
    rw [hr2] at e4; cases e4
    refine kk y Γ2 (some (y, s)) W2 H2 v ⟨s, rfl, ?_⟩ e3 s2 w2 q2
    have q := wk_drops' (C := C') (own'.map (·.2)) (Γ := up (drops (own'.map (·.2)) Γ1) x)
    rw [show drops (own'.map (·.2)) (up (drops (own'.map (·.2)) Γ1) x) = drops (own'.map (·.2)) Γ1 from ((hg C' sh H Cc cl fp).dr _ x _ hws).trans idm] at q
    exact wk.trans q
/-- [f x for x in xs if t x] -/
theorem lc_flt {c : Cod X.K α} {d : Cod X.K β} {ws : List Nat} {up : En X.K → α → En X.K} {J : List β → En X.K → Option ρ → Prop} (ok : BlkOk X.N X.env.scope scope own')
    (hg : ∀ (C' : Ct) sh H Cc cl fp, AG (bx X scope sh H Cc cl fp) C' tg c ws up)
    (h : EI X C Γ tg e c r fun xs Γ1 r1 => ∃ t f k, r1 = fltR t f xs >>= k ∧ (∀ ys, J ys (drops (own'.map (·.2)) Γ1) (k ys)) ∧
      (∀ (C' : Ct) sh H Cc cl fp x, ET (bx X scope sh H Cc cl fp) C' (up (drops (own'.map (·.2)) Γ1) x) a (t x) fun y Γ2 r2 => r2 = some y ∧ Wk C' Γ2 (up (drops (own'.map (·.2)) Γ1) x)) ∧
      (∀ (C' : Ct) sh H Cc cl fp x, EX (bx X scope sh H Cc cl fp) C' (up (drops (own'.map (·.2)) Γ1) x) elt d (f x) fun y Γ2 r2 => r2 = some y ∧ Wk C' Γ2 (up (drops (own'.map (·.2)) Γ1) x)))
    (hws : ∀ i ∈ ws, i ∈ own'.map (·.2) := by decide) (hs : ∀ x, foldedSetIterable e X.env x = pure x := by intro _; rfl) : LC X C Γ elt tg e [a] scope d r J := by
  refine lc_G (S := Unit) ok (ei_imp h fun xs Γ1 r1 j => ?_) hg hws hs
  obtain ⟨t, f, k, e1, hk, ht, hb⟩ := j
  have idm : drops (own'.map (·.2)) (drops (own'.map (·.2)) Γ1) = drops (own'.map (·.2)) Γ1 := drops_idem _ _ _ fun _ h => h
  refine ⟨fun _ => drops (own'.map (·.2)) Γ1, fun x s => t x >>= fun b => some (b, s), fun x s => f x >>= fun y => some (y, s), (), fun z => k z.1, ?_, ?_, fun _ => idm, fun z => hk z.1, fun C' sh H Cc cl fp x s => ?_, fun C' sh H Cc cl fp x s => ?_⟩
  · rw [e1, lcG_flt]
    cases fltR t f xs <;> rfl
  · rw [idm]; exact wk_drops' _
  · refine eq_one (.mk fun z σ W H' Q sat hr kk => ?_)
    obtain ⟨y, e2, e3⟩ := bind_some hr
    refine (ht C' sh H Cc cl fp x).run y σ W H' Q sat e2 fun y' Γ2 r2 W2 H2 j2 hr2 s2 w2 => ?_
    obtain ⟨e4, wk⟩ := j2
    rw [hr2] at e4; cases e4
    exact kk y Γ2 (some (y, s)) W2 H2 ⟨s, rfl, wk⟩ e3 s2 w2
  · refine .mk fun z σ W H' Q sat hr kk => ?_
    obtain ⟨y, e2, e3⟩ := bind_some hr
    refine (hb C' sh H Cc cl fp x).run y σ W H' Q sat e2 fun y' Γ2 r2 W2 H2 v j2 hr2 s2 w2 q2 => ?_
    obtain ⟨e4, wk⟩ := j2
    rw [hr2] at e4; cases e4
    refine kk y Γ2 (some (y, s)) W2 H2 v ⟨s, rfl, ?_⟩ e3 s2 w2 q2
    have q := wk_drops' (C := C') (own'.map (·.2)) (Γ := up (drops (own'.map (·.2)) Γ1) x)
    rw [show drops (own'.map (·.2)) (up (drops (own'.map (·.2)) Γ1) x) = drops (own'.map (·.2)) Γ1 from ((hg C' sh H Cc cl fp).dr _ x _ hws).trans idm] at q
    exact wk.trans q
/-- [f x for x in xs], a state handed on -/
theorem lc_mapS {S : Type} {c : Cod X.K α} {d : Cod X.K β} {ws : List Nat} {up : En X.K → α → En X.K} {J : List β → En X.K → Option ρ → Prop} (ok : BlkOk X.N X.env.scope scope own')
    (hg : ∀ (C' : Ct) sh H Cc cl fp, AG (bx X scope sh H Cc cl fp) C' tg c ws up)
    (h : EI X C Γ tg e c r fun xs Γ1 r1 => ∃ (Γs : S → En X.K), ∃ f s0 k, r1 = mapS f xs s0 >>= k ∧ Wk C Γ1 (Γs s0) ∧ (∀ s, drops (own'.map (·.2)) (Γs s) = Γs s) ∧ (∀ ys, J ys.1 (Γs ys.2) (k ys)) ∧
      (∀ (C' : Ct) sh H Cc cl fp x s, EX (bx X scope sh H Cc cl fp) C' (up (Γs s) x) elt d (f x s) fun y Γ2 r2 => ∃ s2, r2 = some (y, s2) ∧ Wk C' Γ2 (Γs s2)))
    (hws : ∀ i ∈ ws, i ∈ own'.map (·.2) := by decide) (hs : ∀ x, foldedSetIterable e X.env x = pure x := by intro _; rfl) : LC X C Γ elt tg e [] scope d r J := by
  refine lc_G (S := S) ok (ei_imp h fun xs Γ1 r1 j => ?_) hg hws hs
  obtain ⟨Γs, f, s0, k, e1, g0, hdr, hk, hb⟩ := j
  refine ⟨Γs, fun _ s => some (true, s), f, s0, k, ?_, ?_, hdr, hk, fun C' sh H Cc cl fp x s => eq_nil ⟨s, rfl, wk_refl⟩, hb⟩
  · rw [e1, lcG_mapS]
  · rw [hdr]; exact g0

/-! a list that a name owns, by its methods -/
def MtO {δ : Type} (X : Cx) (id : String) (t : TC X.K α) (c : Cod X.K β) (d : Cod X.K δ) (g : List β → α → Option (δ × List β)) : Prop :=
  ∃ rr : V → List V → Hp → VK → Prop, MtM X id rr ∧ ∀ W H l vs ws ys x z (Q : VK), Same W H → H l = some (.lst vs) → Row c W vs ys → t.rp W ws x → g ys x = some z →
    (∀ w vs', d.rp W w z.1 → Row c W vs' z.2 → Q w (upd H l (.lst vs'))) → rr (.ref l) ws H Q
theorem Sat.changed {σ : L2.St} {W H : Hp} {i : Nat} {c : Cod X.K α} {ys zs : List α} {l : Addr} {vs' : List V} (s : Sat C Γ σ W H) (hi : Γ[i]? = some (.ow (lstC c) ys)) (e : σ[i]? = some (some (.ref l))) (h : Row c W vs' zs) :
    Sat C (Γ.set i (.ow (lstC c) zs)) σ W (upd H l (.lst vs')) := by
  obtain ⟨a, o, e1, e2, e3, e4, e5⟩ := s.sl i _ hi
  rw [e] at e1
  have ea := Option.some.inj (show some (V.ref l) = some (V.ref a) from e1)
  injection ea with ea
  subst ea
  exact s.turn hi e (Same.refl _) (fun b u q => by rw [upd_ne (ne_of_none q e2)]; exact s.sub b u q) (fun _ _ q => q) (fun b u hb q => by rw [upd_ne hb]; exact q) upd_same ⟨vs', rfl, h⟩
theorem ex_own {δ : Type} {t : TC X.K α} {c : Cod X.K β} {d : Cod X.K δ} {g : List β → α → Option (δ × List β)} {J : δ → En X.K → Option ρ → Prop} {n m : Str} {id : String} {ys : List β} (i : Nat) (o : MtO X id t c d g)
    (slot : Slot "list" m id) (hty : typeOf (.builtin id) = pure (.type "method_descriptor"))
    (h : EA X C Γ (e :: es) t r fun x Γ1 r1 => Γ1[i]? = some (.ow (lstC c) ys) ∧ ∃ k, r1 = g ys x >>= k ∧ ∀ z, J z.1 (Γ1.set i (.ow (lstC c) z.2)) (k z))
    (hN : X.N[i]? = some n := by rfl) (hΓ : Γ[i]? = some (.ow (lstC c) ys) := by rfl) (hv : Vis X.env.scope n := by first | exact Or.inl rfl | exact Or.inr (Or.inl rfl) | exact Or.inr (Or.inr rfl)) (hd : (n == ("__debug__" : Str)) = false := by decide) (hcd : (n == ("__classdict__" : Str)) = false := by decide)
    (hbase : attributeBase (.Name n p) m X.env (eval (.Name n p) X.env) = eval (.Name n p) X.env := by rfl)
    (hfew : ((backTo cpos (starEach (e :: es) X.env)).all (fun x => !x.1) && (backToKw cpos (keywordEach [] X.env)).all (fun x => x.1.isSome)
      && decide ((e :: es).length + ([] : List Keyword).length + (if ([] : List Keyword).isEmpty then 0 else 1) < 30)) = true := by rfl)
    (hline : (apos.endLine == cpos.line) = true := by rfl) (hs : starEach (e :: es) X.env = (false, eval e X.env) :: starEach es X.env := by rfl) (hplain : (backTo cpos (starEach es X.env)).any (·.1) = false := by rfl) :
    EX X C Γ (.Call (.Attribute (.Name n p) m apos) (e :: es) [] cpos) d r J := .mk fun z σ W H Q s hr kk => by
  obtain ⟨rr, hm, hf⟩ := o
  refine w_pe (pe_bm PySem.F.plainAttrs_list slot hty hm (pe_var hN hv hd hcd) pa_w hbase hfew hline hs hplain) ?_
  obtain ⟨ad, o, e1, e4, vs, rfl, row⟩ := s.seen hΓ
  refine ⟨_, e1, .inl ⟨rfl, vs, SqL.of e4⟩, h z σ W H _ s hr fun x Γ1 r1 W1 H1 ws j1 hr1 s1 w1 q1 => ?_⟩
  obtain ⟨g1, k2, e2, j2⟩ := j1
  rw [e2] at hr1
  obtain ⟨t2, et, ht⟩ := bind_some hr1
  obtain ⟨ad', o', f1, f4, vs', rfl, row'⟩ := s1.seen g1
  rw [e1] at f1; cases f1
  refine hf W1 H1 ad vs' ws ys x t2 _ s1.sub f4 row' q1 et fun w vs2 q2 row2 => ?_
  exact kk t2.1 _ _ W1 _ w (j2 t2) ht (s1.changed g1 e1 row2) w1 q2
theorem ex_own0 {δ : Type} {c : Cod X.K β} {d : Cod X.K δ} {g : List β → Unit → Option (δ × List β)} {J : δ → En X.K → Option ρ → Prop} {n m : Str} {id : String} {ys : List β} (i : Nat) (o : MtO X id tc0 c d g)
    (slot : Slot "list" m id) (hty : typeOf (.builtin id) = pure (.type "method_descriptor"))
    (h : ∃ k, r = g ys () >>= k ∧ ∀ z, J z.1 (Γ.set i (.ow (lstC c) z.2)) (k z))
    (hN : X.N[i]? = some n := by rfl) (hΓ : Γ[i]? = some (.ow (lstC c) ys) := by rfl) (hv : Vis X.env.scope n := by first | exact Or.inl rfl | exact Or.inr (Or.inl rfl) | exact Or.inr (Or.inr rfl)) (hd : (n == ("__debug__" : Str)) = false := by decide) (hcd : (n == ("__classdict__" : Str)) = false := by decide)
    (hbase : attributeBase (.Name n p) m X.env (eval (.Name n p) X.env) = eval (.Name n p) X.env := by rfl) (hline : (apos.endLine == cpos.line) = true := by rfl) :
    EX X C Γ (.Call (.Attribute (.Name n p) m apos) [] [] cpos) d r J := .mk fun z σ W H Q s hr kk => by
  obtain ⟨rr, hm, hf⟩ := o
  refine w_pe (pe_bm0 PySem.F.plainAttrs_list slot hty hm (pe_var hN hv hd hcd) hbase hline) ?_
  obtain ⟨ad, o, e1, e4, vs, rfl, row⟩ := s.seen hΓ
  obtain ⟨k2, e2, j2⟩ := h
  rw [e2] at hr
  obtain ⟨t2, et, ht⟩ := bind_some hr
  refine ⟨_, e1, .inl ⟨rfl, vs, SqL.of e4⟩, hf W H ad vs [] ys () t2 _ s.sub e4 row rfl et fun w vs2 q2 row2 => ?_⟩
  exact kk t2.1 _ _ W _ w (j2 t2) ht (s.changed hΓ e1 row2) (Same.refl _) q2
def pushR (ys : List β) (x : β) : Option (Unit × List β) := if ys.length < 16000000 then some ((), ys ++ [x]) else none
theorem m_append {c : Cod X.K β} : MtO X "list.append" (tc1 c) c cNon pushR := ⟨_, mt_append, fun W H l vs ws ys x z Q sb hl row q1 e k => by
  obtain ⟨v, rfl, q⟩ := q1
  unfold pushR at e
  split at e
  · rename_i hc
    cases e
    exact ⟨l, vs, v, rfl, rfl, hl, by rw [row.length]; exact Nat.lt_trans hc (by decide), k _ _ rfl (row.append (.cons q .nil))⟩
  · cases e⟩
def extR (ys zs : List β) : Option (Unit × List β) := if ys.length + zs.length ≤ 16000000 then some ((), ys ++ zs) else none
theorem m_extend {c : Cod X.K β} : MtO X "list.extend" (tc1 (cLst c)) c cNon extR := ⟨_, mt_extend, fun W H l vs ws ys x z Q sb hl row q1 e k => by
  obtain ⟨v, rfl, ad, us, rfl, h2, row2⟩ := q1
  unfold extR at e
  split at e
  · rename_i hc
    cases e
    exact ⟨l, ad, vs, us, rfl, rfl, hl, sb _ _ h2, by rw [row.length, row2.length]; exact Nat.le_trans hc (by decide), k _ _ rfl (row.append row2)⟩
  · cases e⟩
def popR (ys : List β) (i : Int) : Option (β × List β) := (ixN ys.length i).bind fun j => (ys[j]?).map fun x => (x, ys.eraseIdx j)
theorem m_popAt {c : Cod X.K β} : MtO X "list.pop" (tc1 cInt) c c fun ys i => if ys.length ≤ 16777216 then popR ys i else none := ⟨_, mt_popAt, fun W H l vs ws ys x z Q sb hl row q1 e k => by
  obtain ⟨v, rfl, q⟩ := q1
  cases q
  have e : (if ys.length ≤ 16777216 then popR ys x else none) = some z := e
  split at e
  · rename_i hl2
    unfold popR at e
    cases hj : ixN ys.length x with
    | none => rw [hj] at e; cases e
    | some j =>
      rw [hj] at e
      have e : (ys[j]?).map (fun x => (x, ys.eraseIdx j)) = some z := e
      obtain ⟨y, hy, ez⟩ := Option.map_eq_some_iff.mp e
      subst ez
      obtain ⟨w, h1, h2⟩ := row.get hy
      obtain ⟨q1, q2, q3, q4⟩ := ixN_seq hj
      exact ⟨l, vs, x, j, w, rfl, rfl, hl, by omega, by omega, by rw [row.length]; exact q1, h1, k _ _ h2 (row.erase j)⟩
  · cases e⟩
def popL (ys : List β) : Unit → Option (β × List β) := fun _ => (ys[ys.length - 1]?).map fun x => (x, ys.dropLast)
theorem Row.dropLast {K : Frag} {c : Cod K α} {H : Hp} {vs : List V} {xs : List α} (h : Row c H vs xs) : Row c H vs.dropLast xs.dropLast := by
  rw [List.dropLast_eq_take, List.dropLast_eq_take, h.length]
  exact h.take _
theorem m_pop {c : Cod X.K β} : MtO X "list.pop" tc0 c c popL := ⟨_, mt_pop, fun W H l vs ws ys x z Q sb hl row q1 e k => by
  cases q1
  obtain ⟨y, hy, ez⟩ := Option.map_eq_some_iff.mp e
  subst ez
  obtain ⟨w, h1, h2⟩ := row.get hy
  exact ⟨l, vs, w, rfl, rfl, hl, by rw [row.length]; exact h1, k _ _ h2 row.dropLast⟩⟩
/-- xs[i] = v, xs owned -/
def setR (ys : List β) (i : Int) (x : β) : Option (List β) := (ixN ys.length i).map fun j => ys.set j x
theorem gs_setI {ρ' : Type} {r : Option β} {T : Go X.K ρ' β} {c : Cod X.K α} {n : Str} (i : Nat)
    (h : EX X C Γ e c r fun x Γ1 r1 => (∃ ys, Γ1[i]? = some (.ow (lstC c) ys)) ∧ EX X C Γ1 b cInt r1 fun j Γ2 r2 => ∃ ys, Γ2[i]? = some (.ow (lstC c) ys) ∧ ∃ k, r2 = setR ys j x >>= k ∧ ∀ zs, T.nx (Γ2.set i (.ow (lstC c) zs)) (k zs))
    (hN : X.N[i]? = some n := by rfl) (hv : Vis X.env.scope n := by first | exact Or.inl rfl | exact Or.inr (Or.inl rfl) | exact Or.inr (Or.inr rfl)) (hd : (n == ("__debug__" : Str)) = false := by decide) (hcd : (n == ("__classdict__" : Str)) = false := by decide)
    (ha : ∀ v, assign (.Subscript (.Name n p) b p2) X.env v = (do
      let ov ← holding [v] (eval (.Name n p) X.env)
      let iv ← holding [v, ov] (eval b X.env)
      standAt p2
      holding [v, ov, iv] (setItem ov iv v)
      release [v, ov, iv] []) := by intro _; rfl)
    (hs : swapsWithSole [.Subscript (.Name n p) b p2] e pos.line X.env = pure false := by rfl) (hw : swappedStores [.Subscript (.Name n p) b p2] e X.env = pure none := by rfl)
    (h1 : (assignEach [.Subscript (.Name n p) b p2] X.env).map (·.2) = [assign (.Subscript (.Name n p) b p2) X.env] := by rfl) :
    GK X C (wpS X (.Assign [.Subscript (.Name n p) b p2] e pos)) Γ r T := GK.mk fun z σ W H D s hr kn kb kc kr => by
  refine w_ps (ps_asg pe_w (pg_sub (pe_var hN hv hd hcd) pe_w set_list ha) hs hw h1) (h z σ W H _ s hr fun x Γ1 r1 W1 H1 v j1 hr1 s1 w1 q1 => ?_)
  obtain ⟨⟨ys0, g1⟩, j1⟩ := j1
  obtain ⟨ad, o, e1, e4, vs, rfl, row⟩ := s1.seen g1
  refine ⟨_, e1, j1 z σ W1 H1 _ s1 hr1 fun jj Γ2 r2 W2 H2 v2 j2 hr2 s2 w2 q2 => ?_⟩
  obtain ⟨ys, g2, k2, e2, j2⟩ := j2
  rw [e2] at hr2
  obtain ⟨zs, et, ht⟩ := bind_some hr2
  obtain ⟨ad', o', f1, f4, vs', rfl, row'⟩ := s2.seen g2
  rw [e1] at f1; cases f1
  obtain ⟨jn, hj, ez⟩ := Option.map_eq_some_iff.mp et
  subst ez
  cases q2
  exact ⟨ad, vs', jj, jn, rfl, rfl, f4, by rw [row'.length]; exact hj, kn _ _ σ W2 _ (j2 _) ht (s2.changed g2 e1 (row'.set (c.mono w2 q1) jn)) (w1.trans w2)⟩

/-! slices, sums of tuples, being in -/
def sliceO (n : Nat) (lo hi : Option Int) : Nat × Nat := (HT.sIx n 0 lo, HT.sIx n n hi - HT.sIx n 0 lo)
def cutR (xs : List α) (lo hi : Option Int) : List α := (xs.drop (HT.sIx xs.length 0 lo)).take (HT.sIx xs.length xs.length hi - HT.sIx xs.length 0 lo)
theorem Row.cut {K : Frag} {c : Cod K α} {H : Hp} {vs : List V} {xs : List α} (h : Row c H vs xs) (lo hi : Option Int) : Row c H (cutV vs lo hi) (cutR xs lo hi) := by
  unfold cutV cutR
  rw [h.length]
  exact (h.drop _).take _
end
def wpo (X : Cx) (o : Option Expr) : TO := fun σ H Q => ∀ pins s, Inv X pins σ H s → wpAny (model X.prog X.w) X.A (evalPart o X.env) (fun u s' => ∃ o H', Inv X pins σ H' s' ∧ IsPart u o ∧ Q o H') X.xe s
section
variable {X : Cx} {C : Ct} {ρ α β γ : Type} {Γ : En X.K} {tg elt e a b : Expr} {es : List Expr} {r : Option ρ} {pos p p2 p3 apos cpos : Pos} {lo hi o : Option Expr}
theorem po_w : PO X o (wpo X o) := ⟨fun pins s _ _ _ I h => h pins s I⟩
/-- an optional part of a slice -/
def EO (X : Cx) (C : Ct) {ρ : Type} (Γ : En X.K) (o : Option Expr) (r : Option ρ) (J : Option Int → En X.K → Option ρ → Prop) : Prop :=
  ∀ (z : ρ) σ W H (Q : Option Int → Hp → Prop), Sat C Γ σ W H → r = some z →
    (∀ x Γ' r' W' H', J x Γ' r' → r' = some z → Sat C Γ' σ W' H' → Same W W' → Q x H') → wpo X o σ H Q
theorem eo_none {J : Option Int → En X.K → Option ρ → Prop} (h : J none Γ r) : EO X C Γ none r J := fun z σ W H Q s hr k pins sh I => po_none.run pins sh σ H Q I (k none Γ r W H h hr s (Same.refl _))
theorem eo_some {J : Option Int → En X.K → Option ρ → Prop} (h : EX X C Γ e cInt r fun i Γ1 r1 => J (some i) Γ1 r1) : EO X C Γ (some e) r J := fun z σ W H Q s hr k pins sh I =>
  (po_some pe_w).run pins sh σ H Q I (h z σ W H _ s hr fun i Γ1 r1 W1 H1 v j1 hr1 s1 w1 q1 => ⟨i, q1, k _ Γ1 r1 W1 H1 j1 hr1 s1 w1⟩)
theorem ex_slS {c : Cod X.K α} {J : List α → En X.K → Option ρ → Prop} (h : EX X C Γ e (cSeq c) r fun x Γ1 r1 => EO X C Γ1 lo r1 fun l Γ2 r2 => EO X C Γ2 hi r2 fun u Γ3 r3 => J (cutR x l u) Γ3 r3) :
    EX X C Γ (.Subscript e (.Slice lo hi none p2) pos) (cSeq c) r J := .mk fun z σ W H Q s hr k =>
  w_pe (pe_slice sl_tupA pe_w po_w po_w) (h z σ W H _ s hr fun x Γ1 r1 W1 H1 v j1 hr1 s1 w1 q1 => j1 z σ W1 H1 _ s1 hr1 fun l Γ2 r2 W2 H2 j2 hr2 s2 w2 => j2 z σ W2 H2 _ s2 hr2 fun u Γ3 r3 W3 H3 j3 hr3 s3 w3 => by
    obtain ⟨ad, vs, rfl, h2, h3⟩ := q1
    have h2' := Same.tup w3 (Same.tup w2 h2)
    have row := ((h3.mono w2).mono w3).cut l u
    have ww := (w1.trans w2).trans w3
    refine ⟨ad, vs, rfl, Same.tup s3.sub h2', fun hw => ?_, fun hw pp hp => ?_⟩
    · have e : cutV vs l u = vs := by unfold cutV; rw [hw.1, hw.2]; simp
      rw [e] at row
      exact k _ Γ3 r3 W3 H3 _ j3 hr3 s3 ww ⟨ad, vs, rfl, h2', row⟩
    · have G := Grow.new (o := .tup (cutV vs l u)) s3.sub hp
      exact k _ Γ3 r3 _ _ _ j3 hr3 (s3.grow G) (ww.trans G.w) ⟨pp, _, rfl, SqT.of upd_same, row.mono G.w⟩)
theorem ef_slL {c : Cod X.K α} {J : List α → En X.K → Option ρ → Prop} (h : EX X C Γ e (cLst c) r fun x Γ1 r1 => EO X C Γ1 lo r1 fun l Γ2 r2 => EO X C Γ2 hi r2 fun u Γ3 r3 => J (cutR x l u) Γ3 r3) :
    EF X C Γ (.Subscript e (.Slice lo hi none p2) pos) (lstC c) r J := .mk fun z σ W H Q s hr k =>
  w_pe (pe_slice sl_list pe_w po_w po_w) (h z σ W H _ s hr fun x Γ1 r1 W1 H1 v j1 hr1 s1 w1 q1 => j1 z σ W1 H1 _ s1 hr1 fun l Γ2 r2 W2 H2 j2 hr2 s2 w2 => j2 z σ W2 H2 _ s2 hr2 fun u Γ3 r3 W3 H3 j3 hr3 s3 w3 => by
    obtain ⟨ad, vs, rfl, h2, h3⟩ := q1
    have row := ((h3.mono w2).mono w3).cut l u
    have ww := (w1.trans w2).trans w3
    refine ⟨ad, vs, rfl, SqL.of (s3.sub _ _ (w3 _ _ (w2 _ _ h2))), fun pp hp => ?_⟩
    obtain ⟨s4, wp, cp, ap, la⟩ := s3.fresh (o := .lst (cutV vs l u)) hp
    exact k _ Γ3 r3 W3 _ pp _ j3 hr3 s4 ww wp cp upd_same ⟨_, rfl, row⟩ ap la)
def catR (x y : List α) : Option (List α) := if x.length + y.length ≤ 16000000 then some (x ++ y) else none
theorem o_catS {c : Cod X.K α} : Op2 X (binaryOp .Add) (cSeq c) (cSeq c) (cSeq c) catR := ⟨_, op_catA, fun W H x y v u z Q sb h1 h2 e k => by
  obtain ⟨ad, vs, rfl, a2, a3⟩ := h1
  obtain ⟨bd, ws, rfl, b2, b3⟩ := h2
  unfold catR at e
  split at e
  · rename_i hc
    cases e
    refine ⟨ad, bd, vs, ws, rfl, rfl, Same.tup sb a2, Same.tup sb b2, by rw [a3.length, b3.length]; exact Nat.le_trans hc (by decide), fun hx => ?_, fun _ hy => ?_, fun _ _ pp hp => ?_⟩
    · subst hx; cases a3; exact k _ W H (Grow.refl sb) ⟨bd, ws, rfl, b2, b3⟩
    · subst hy; cases b3; rw [List.append_nil] at k; exact k _ W H (Grow.refl sb) ⟨ad, vs, rfl, a2, a3⟩
    · have G := Grow.new (o := .tup (vs ++ ws)) sb hp
      exact k _ _ _ G ⟨pp, _, rfl, SqT.of upd_same, (a3.append b3).mono G.w⟩
  · cases e⟩
theorem o_catL {c : Cod X.K α} : Op2 X (binaryOp .Add) (cLst c) (cLst c) (cLst c) catR := ⟨_, op_cat, fun W H x y v u z Q sb h1 h2 e k => by
  obtain ⟨ad, vs, rfl, a2, a3⟩ := h1
  obtain ⟨bd, ws, rfl, b2, b3⟩ := h2
  unfold catR at e
  split at e
  · rename_i hc
    cases e
    refine ⟨ad, bd, vs, ws, rfl, rfl, sb _ _ a2, sb _ _ b2, by rw [a3.length, b3.length]; exact Nat.le_trans hc (by decide), fun pp hp => ?_⟩
    have G := Grow.new (o := .lst (vs ++ ws)) sb hp
    exact k _ _ _ G ⟨pp, _, rfl, upd_same, (a3.append b3).mono G.w⟩
  · cases e⟩
/-- values that == tells apart as Lean's = does -/
structure Flat {K : Frag} {α : Type} [DecidableEq α] (c : Cod K α) : Prop where
  fl : ∀ {H v x}, c.rp H v x → flatV v = true
  eq : ∀ {H H' v u x y}, c.rp H v x → c.rp H' u y → eqV v u = decide (x = y)
theorem flatI {K : Frag} : Flat (cInt (K := K)) := ⟨fun h => by cases h; rfl, fun h h' => by cases h; cases h'; simp [eqV, Bool.beq_eq_decide_eq]⟩
theorem flatS {K : Frag} : Flat (cStr (K := K)) := ⟨fun h => by cases h; rfl, fun h h' => by cases h; cases h'; simp [eqV, Bool.beq_eq_decide_eq]⟩
theorem flatB {K : Frag} : Flat (cBool (K := K)) := ⟨fun h => by cases h; rfl, fun h h' => by cases h; cases h'; simp [eqV, Bool.beq_eq_decide_eq]⟩
theorem Row.flat {K : Frag} [DecidableEq α] {c : Cod K α} {H : Hp} (f : Flat c) : ∀ {vs : List V} {xs : List α}, Row c H vs xs → vs.all flatV = true
  | _, _, .nil => rfl
  | _, _, .cons h t => by rw [List.all_cons, f.fl h, Row.flat f t]; rfl
theorem Row.inV {K : Frag} [DecidableEq α] {c : Cod K α} {H H' : Hp} {v : V} {x : α} (f : Flat c) (hx : c.rp H' v x) : ∀ {vs : List V} {xs : List α}, Row c H vs xs → L2.inV v vs = decide (x ∈ xs)
  | _, _, .nil => by simp [L2.inV]
  | _, _, .cons (x := y) h t => by
    have ih := Row.inV f hx t
    unfold L2.inV at ih ⊢
    rw [List.any_cons, ih, f.eq h hx]
    by_cases e : y = x
    · simp [e]
    · have : ¬ x = y := fun z => e z.symm
      simp [e, this]
theorem o_inS [DecidableEq α] {c : Cod X.K α} (f : Flat c) : Op2 X (compareOp .In) c (cSeq c) cBool fun x y => some (decide (x ∈ y)) := ⟨_, op_in_seq, fun W H x y v u z Q sb h1 h2 e k => by
  obtain ⟨ad, vs, rfl, a2, a3⟩ := h2; cases e
  exact ⟨ad, vs, rfl, .inr (Same.tup sb a2), f.fl h1, a3.flat f, by rw [a3.inV f h1]; exact k _ W H (Grow.refl sb) rfl⟩⟩
theorem o_inL [DecidableEq α] {c : Cod X.K α} (f : Flat c) : Op2 X (compareOp .In) c (cLst c) cBool fun x y => some (decide (x ∈ y)) := ⟨_, op_in_seq, fun W H x y v u z Q sb h1 h2 e k => by
  obtain ⟨ad, vs, rfl, a2, a3⟩ := h2; cases e
  exact ⟨ad, vs, rfl, .inl (SqL.of (sb _ _ a2)), f.fl h1, a3.flat f, by rw [a3.inV f h1]; exact k _ W H (Grow.refl sb) rfl⟩⟩
theorem o_niS [DecidableEq α] {c : Cod X.K α} (f : Flat c) : Op2 X (compareOp .NotIn) c (cSeq c) cBool fun x y => some (!decide (x ∈ y)) := ⟨_, op_notIn_seq, fun W H x y v u z Q sb h1 h2 e k => by
  obtain ⟨ad, vs, rfl, a2, a3⟩ := h2; cases e
  exact ⟨ad, vs, rfl, .inr (Same.tup sb a2), f.fl h1, a3.flat f, by rw [a3.inV f h1]; exact k _ W H (Grow.refl sb) rfl⟩⟩
theorem o_niL [DecidableEq α] {c : Cod X.K α} (f : Flat c) : Op2 X (compareOp .NotIn) c (cLst c) cBool fun x y => some (!decide (x ∈ y)) := ⟨_, op_notIn_seq, fun W H x y v u z Q sb h1 h2 e k => by
  obtain ⟨ad, vs, rfl, a2, a3⟩ := h2; cases e
  exact ⟨ad, vs, rfl, .inl (SqL.of (sb _ _ a2)), f.fl h1, a3.flat f, by rw [a3.inV f h1]; exact k _ W H (Grow.refl sb) rfl⟩⟩
/-- a constant of the module -/
theorem ex_glob {c : Cod X.K α} {x : α} {n : Str} {v : V} {u : Value} {J : α → En X.K → Option ρ → Prop} (hm : X.mg n = some u) (rv : RelV v u) (hc : ∀ W, c.rp W v x) (hJ : J x Γ r) (hg : Gl X n := by rfl) (hd : (n == ("__debug__" : Str)) = false := by decide) :
    EX X C Γ (.Name n p) c r J := .mk fun z σ W H Q s hr k => w_pe (pe_glob hg hm rv hd) (k x Γ r W H v hJ hr s (Same.refl _) (hc W))
/-- xs.index(x) -/
def idxR [DecidableEq α] (xs : List α) (x : α) : Option Int := if x ∈ xs then some ((xs.idxOf x : Nat) : Int) else none
theorem idxOf_spec [DecidableEq α] {x : α} : ∀ {xs : List α}, x ∈ xs → xs[xs.idxOf x]? = some x ∧ ∀ m, m < xs.idxOf x → xs[m]? ≠ some x
  | [], h => by cases h
  | y :: ys, h => by
    by_cases e : y = x
    · subst e; simp
    · have hm : x ∈ ys := (List.mem_cons.mp h).resolve_left fun z => e z.symm
      obtain ⟨h1, h2⟩ := idxOf_spec hm
      have eb : (y == x) = false := by simp [e]
      rw [List.idxOf_cons, eb]
      refine ⟨by simpa using h1, fun m hm => ?_⟩
      cases m with
      | zero => simp [e]
      | succ m => simpa using h2 m (by simpa using hm)
theorem ex_idxL [DecidableEq α] {c : Cod X.K α} (f : Flat c) {J : Int → En X.K → Option ρ → Prop}
    (h : EX X C Γ a (cLst c) r fun xs Γ1 r1 => EX X C Γ1 e c r1 fun x Γ2 r2 => ∃ k, r2 = idxR xs x >>= k ∧ ∀ z, J z Γ2 (k z))
    (hbase : attributeBase a "index" X.env (eval a X.env) = eval a X.env := by rfl)
    (hfew : ((backTo cpos (starEach [e] X.env)).all (fun x => !x.1) && (backToKw cpos (keywordEach [] X.env)).all (fun x => x.1.isSome)
      && decide ([e].length + ([] : List Keyword).length + (if ([] : List Keyword).isEmpty then 0 else 1) < 30)) = true := by rfl)
    (hline : (apos.endLine == cpos.line) = true := by rfl) (hs : starEach [e] X.env = (false, eval e X.env) :: starEach [] X.env := by rfl) (hplain : (backTo cpos (starEach [] X.env)).any (·.1) = false := by rfl) :
    EX X C Γ (.Call (.Attribute a "index" apos) [e] [] cpos) cInt r J := .mk fun z σ W H Q s hr k =>
  w_pe (pe_bm PySem.F.plainAttrs_list PySem.F.slot_list_index PySem.F.type_list_index mt_index pe_w (pa_cons pe_w pa_nil hs) hbase hfew hline hs hplain) (h z σ W H _ s hr fun xs Γ1 r1 W1 H1 v j1 hr1 s1 w1 q1 => by
    obtain ⟨ad, vs, rfl, h2, h3⟩ := q1
    refine ⟨.inl ⟨rfl, vs, SqL.of (s1.sub _ _ h2)⟩, j1 z σ W1 H1 _ s1 hr1 fun x Γ2 r2 W2 H2 u j2 hr2 s2 w2 q2 => ?_⟩
    obtain ⟨k2, e2, j2⟩ := j2
    rw [e2] at hr2
    obtain ⟨t, et, ht⟩ := bind_some hr2
    unfold idxR at et
    split at et
    · rename_i hm
      cases et
      obtain ⟨g1, g2⟩ := idxOf_spec hm
      have row := h3.mono w2
      obtain ⟨zv, f1, f2⟩ := row.get g1
      refine ⟨ad, vs, u, xs.idxOf x, zv, rfl, rfl, SqL.of (s2.sub _ _ (w2 _ _ h2)), f.fl q2, row.flat f, f1, by rw [f.eq f2 q2]; simp, fun m z' hm hz => ?_, k _ Γ2 _ W2 H2 _ (j2 _) ht s2 (w1.trans w2) rfl⟩
      obtain ⟨y, y1, y2⟩ := row.get' hz
      rw [f.eq y2 q2]
      exact decide_eq_false fun ey => g2 m hm (by rw [y1, ey])
    · cases et)
/-- T.index(x), T a constant of the module, texts -/
theorem ex_idxK {ys : List Str} {n : Str} {ad : Addr} {o : Obj} {J : Int → En X.K → Option ρ → Prop} (hm : X.mg n = some (.ref ad)) (hk : ∀ W, SqT X.K W ad (ys.map V.str)) (ho : X.K.lookup ad = some o ∧ o.cls = .type "tuple" ∧ o.dict = none)
    (h : EX X C Γ e cStr r fun x Γ2 r2 => ∃ k, r2 = idxR ys x >>= k ∧ ∀ z, J z Γ2 (k z)) (hg : Gl X n := by rfl) (hd : (n == ("__debug__" : Str)) = false := by decide)
    (hbase : attributeBase (.Name n p) "index" X.env (eval (.Name n p) X.env) = eval (.Name n p) X.env := by rfl)
    (hfew : ((backTo cpos (starEach [e] X.env)).all (fun x => !x.1) && (backToKw cpos (keywordEach [] X.env)).all (fun x => x.1.isSome)
      && decide ([e].length + ([] : List Keyword).length + (if ([] : List Keyword).isEmpty then 0 else 1) < 30)) = true := by rfl)
    (hline : (apos.endLine == cpos.line) = true := by rfl) (hs : starEach [e] X.env = (false, eval e X.env) :: starEach [] X.env := by rfl) (hplain : (backTo cpos (starEach [] X.env)).any (·.1) = false := by rfl) :
    EX X C Γ (.Call (.Attribute (.Name n p) "index" apos) [e] [] cpos) cInt r J := .mk fun z σ W H Q s hr k =>
  w_pe (pe_bm PySem.F.plainAttrs_tuple PySem.F.slot_tuple_index PySem.F.type_tuple_index mt_tup_index (pe_glob (v := .ref ad) hg hm rfl hd) (pa_cons pe_w pa_nil hs) hbase hfew hline hs hplain)
    ⟨.inr (.inl ⟨rfl, o, ho⟩), h z σ W H _ s hr fun x Γ2 r2 W2 H2 u j2 hr2 s2 w2 q2 => by
    obtain ⟨k2, e2, j2⟩ := j2
    rw [e2] at hr2
    obtain ⟨t, et, ht⟩ := bind_some hr2
    unfold idxR at et
    split at et
    · rename_i hm
      cases et
      cases q2
      obtain ⟨g1, g2⟩ := idxOf_spec hm
      exact ⟨ad, ys, x, ys.idxOf x, rfl, rfl, hk H2, g1, g2, k _ Γ2 _ W2 H2 _ (j2 _) ht s2 w2 rfl⟩
    · cases et⟩
end
end Ty

set_option maxHeartbeats 4000000
namespace Ty
open PySem PySem.Spec PyProof.Rows L2

/-! ### defs -/
section
variable {K : Frag}
structure PEn {α : Type} (t : TC K α) (en : α → En K) : Prop where
  len : ∀ x, (en x).length = t.n
  ok : ∀ {W : Hp} {vs : List V} {x : α}, t.rp W vs x → ∀ (i : Nat) (e : Ent K), (en x)[i]? = some e → ∃ (γ : Type) (c : Cod K γ) (y : γ) (v : V), e = .im c y ∧ vs[i]? = some v ∧ c.rp W v y
theorem pen0 : PEn (K := K) tc0 fun _ => [] := ⟨fun _ => rfl, fun _ i e h => by simp at h⟩
theorem pen1 {α : Type} {c : Cod K α} : PEn (tc1 c) fun x => [.im c x] := ⟨fun _ => rfl, fun ⟨v, h, q⟩ i e he => by
  cases i with
  | zero => simp at he; exact ⟨_, c, _, v, he.symm, by rw [h]; rfl, q⟩
  | succ i => simp at he⟩
theorem penC {α β : Type} {c : Cod K α} {t : TC K β} {en : β → En K} (h : PEn t en) : PEn (tcC c t) fun x => .im c x.1 :: en x.2 := ⟨fun x => by simp [h.len, tcC], fun ⟨v, r, hv, q, q2⟩ i e he => by
  cases i with
  | zero => simp at he; exact ⟨_, c, _, v, he.symm, by rw [hv]; rfl, q⟩
  | succ i =>
    obtain ⟨γ, d, y, w, e1, e2, e3⟩ := h.ok q2 i e (by simpa using he)
    exact ⟨γ, d, y, w, e1, by rw [hv]; simpa using e2, e3⟩⟩
theorem start_get {N : List Str} {vs : List V} {i : Nat} {v : V} (h : vs[i]? = some v) : (start N vs)[i]? = some (some v) := by
  unfold L2.start
  have hi : i < vs.length := (List.getElem?_eq_some_iff.mp h).1
  rw [List.getElem?_append_left (by simpa using hi), List.getElem?_map, h]
  rfl
theorem start_sat {α : Type} {t : TC K α} {en : α → En K} {W H : Hp} {vs : List V} {x : α} {N : List Str} {m : Nat} (hp : PEn t en) (q : t.rp W vs x) (sb : Same W H) :
    Sat ⟨W, H, fun _ => False, none⟩ (en x ++ List.replicate m .no) (start N vs) W H := by
  have ent : ∀ (i : Nat) (e : Ent K), (en x ++ List.replicate m .no)[i]? = some e → e = .no ∨ ∃ (γ : Type) (c : Cod K γ) (y : γ) (v : V), e = .im c y ∧ vs[i]? = some v ∧ c.rp W v y := fun i e h => by
    by_cases hi : i < (en x).length
    · rw [List.getElem?_append_left hi] at h
      exact .inr (hp.ok q i e h)
    · rw [List.getElem?_append_right (by omega), List.getElem?_replicate] at h
      have he : e = .no := by split at h <;> simp_all
      exact .inl he
  have no : ∀ i, ¬ own (en x ++ List.replicate m .no) i := fun i ⟨e, h1, h2⟩ => by
    rcases ent i e h1 with rfl | ⟨γ, c, y, v, rfl, _⟩ <;> cases h2
  refine ⟨fun i e h => ?_, fun i j a _ hi => absurd hi (no i), sb, Same.refl _, fun i a h => (by cases h), fun a o h _ _ => h, fun _ h => h, fun _ _ h => h, fun a h => by rcases h with h | h; exact h.elim; cases h⟩
  rcases ent i e h with rfl | ⟨γ, c, y, v, rfl, h2, h3⟩
  · trivial
  · exact ⟨v, by rw [start_get h2]; rfl, h3⟩
theorem start_satL {α τ : Type} {t : TC K α} {en : α → En K} {ce : Cel K τ} {tp : τ} {W H : Hp} {a : Addr} {o : HO} {vs : List V} {x : α} {N : List Str} {m : Nat} (hp : PEn t en) (q : t.rp W vs x) (sb : Same W H) (wa : W a = none) (ha : H a = some o) (hc : ce.ct W o tp) :
    Sat ⟨W, H, fun _ => False, some a⟩ (.lp :: (en x ++ (List.replicate m .no ++ [.ln ce tp]))) (start N (.ref a :: vs)) W H := by
  have ent : ∀ (i : Nat) (e : Ent K), (Ent.lp :: (en x ++ (List.replicate m .no ++ [.ln ce tp])))[i]? = some e → e = .no ∨ (e = .lp ∧ i = 0) ∨ e = .ln ce tp ∨ ∃ (γ : Type) (c : Cod K γ) (y : γ) (v : V), e = .im c y ∧ (V.ref a :: vs)[i]? = some v ∧ c.rp W v y := fun i e h => by
    cases i with
    | zero => simp at h; exact .inr (.inl ⟨h.symm, rfl⟩)
    | succ i =>
      rw [List.getElem?_cons_succ] at h
      by_cases hi : i < (en x).length
      · rw [List.getElem?_append_left hi] at h
        obtain ⟨γ, c, y, v, e1, e2, e3⟩ := hp.ok q i e h
        exact .inr (.inr (.inr ⟨γ, c, y, v, e1, by simpa using e2, e3⟩))
      · rw [List.getElem?_append_right (by omega)] at h
        by_cases hj : i - (en x).length < m
        · rw [List.getElem?_append_left (by simpa using hj), List.getElem?_replicate] at h
          have he : e = .no := by split at h <;> simp_all
          exact .inl he
        · rw [List.getElem?_append_right (by simpa using hj)] at h
          have hz : e = .ln ce tp := by
            generalize i - (en x).length - (List.replicate m (Ent.no (K := K))).length = kk at h
            cases kk with
            | zero => simp at h; exact h.symm
            | succ kk => simp at h
          exact .inr (.inr (.inl hz))
  have no : ∀ i, ¬ own (Ent.lp :: (en x ++ (List.replicate m .no ++ [.ln ce tp]))) i := fun i ⟨e, h1, h2⟩ => by
    rcases ent i e h1 with rfl | ⟨rfl, _⟩ | rfl | ⟨γ, c, y, v, rfl, _⟩ <;> cases h2
  refine ⟨fun i e h => ?_, fun i j a _ hi => absurd hi (no i), sb, Same.refl _, fun i _ _ hi => absurd hi (no i), fun a o h _ _ => h, fun _ h => h, fun _ _ h => h, fun b h => ?_⟩
  · rcases ent i e h with rfl | ⟨rfl, rfl⟩ | rfl | ⟨γ, c, y, v, rfl, h2, h3⟩
    · trivial
    · exact ⟨a, rfl, by rw [start_get (N := N) (vs := .ref a :: vs) (i := 0) (v := .ref a) rfl]; rfl⟩
    · exact ⟨a, o, rfl, wa, ha, hc⟩
    · exact ⟨v, by rw [start_get h2]; rfl, h3⟩
  · rcases h with h | h
    · exact h.elim
    · cases h; rw [ha]; simp
end
/-- what a body is to come to: a value (None at its end, where fl says so) -/
def goTop {K : Frag} {β : Type} (c : Cod K β) (fl : β → Prop) : Go K β β := { R := fun W _ v x => c.rp W v x, ret := fun x => x, nx := fun _ r' => ∃ z, r' = some z ∧ fl z }
def goTopN {K : Frag} {β : Type} (C : Ct) (c : Cel K β) : Go K β β := { R := NewR C c, ret := fun x => x, nx := fun _ _ => False }
/-- a value, and what was lent -/
def RetL {K : Frag} {β τ : Type} (C : Ct) (c : Cod K β) (ce : Cel K τ) : Hp → Hp → V → β × τ → Prop := fun W H v x => c.rp W v x.1 ∧ ∃ a o, C.a = some a ∧ H a = some o ∧ ce.ct W o x.2
def RetNL {K : Frag} {β τ : Type} (C : Ct) (c : Cel K β) (ce : Cel K τ) : Hp → Hp → V → β × τ → Prop := fun W H v x => NewR C c W H v x.1 ∧ ∃ a o, C.a = some a ∧ H a = some o ∧ ce.ct W o x.2
def goTopL {K : Frag} {β τ : Type} (C : Ct) (c : Cod K β) (ce : Cel K τ) : Go K (β × τ) (β × τ) := { R := RetL C c ce, ret := fun x => x, nx := fun _ _ => False }
def goTopNL {K : Frag} {β τ : Type} (C : Ct) (c : Cel K β) (ce : Cel K τ) : Go K (β × τ) (β × τ) := { R := RetNL C c ce, ret := fun x => x, nx := fun _ _ => False }
/-- a def that changes what its first argument is -/
def spM {α β τ : Type} (K : Frag) (ce : Cel K τ) (t : TC K α) (f : τ → α → Option (β × τ)) (c : Cod K β) : Sp := fun vs H Q _ => ∃ W a o us tp x, vs = .ref a :: us ∧ Same W H ∧ W a = none ∧ H a = some o ∧ ce.ct W o tp ∧ t.rp W us x ∧ ∃ z, f tp x = some z ∧
  ∀ W' H' v o', Same W W' → Same W' H' → (∀ b u, b ≠ a → H b = some u → H' b = some u) → (∀ b, H b ≠ none → W b = none → W' b = none) → H' a = some o' → ce.ct W' o' z.2 → c.rp W' v z.1 → Q v H'
def spMN {α β τ : Type} (K : Frag) (ce : Cel K τ) (t : TC K α) (f : τ → α → Option (β × τ)) (c : Cel K β) : Sp := fun vs H Q _ => ∃ W a o us tp x, vs = .ref a :: us ∧ Same W H ∧ W a = none ∧ H a = some o ∧ ce.ct W o tp ∧ t.rp W us x ∧ ∃ z, f tp x = some z ∧
  ∀ W' H' p o2 o', Same W W' → Same W' H' → (∀ b u, b ≠ a → H b = some u → H' b = some u) → (∀ b, H b ≠ none → W b = none → W' b = none) → H' a = some o' → ce.ct W' o' z.2 → W' p = none → H p = none → H' p = some o2 → c.ct W' o2 z.1 → Q (.ref p) H'
section
variable {P : Program} {w : World} {K : Frag} {mg : Str → Option Value} {base : Heap} {nm qual : Str} {params : Arguments} {body : List Stmt} {scope : Scope} {fa : Addr} {fd : FuncData} {N ps : List Str} {k : Nat} {α β τ : Type}
/-- the context of a body -/
abbrev bX (P : Program) (w : World) (K : Frag) (mg : Str → Option Value) (base : Heap) (N : List Str) (qual : Str) (scope : Scope) (fa : Addr) (cdv : Value) (A : Around) (outer : List Env) (s : Shared) (H : Hp) (E : XK) : Cx := (cxOf CX0 P w K mg base N qual scope fa cdv A outer s H E).nox
theorem fn_top {t : TC K α} {en : α → En K} {f : α → Option β} {c : Cod K β} (fl : β → Prop) (hfl : ∀ z, fl z → ∀ W, c.rp W .non z) (F : FunD K nm qual params body scope [] [] fa fd) (S : FnScope N ps scope) (hp : PEn t en) (Γ0 : α → En K)
    (hb : ∀ cdv A outer s H E, Room k (A.deeper (envOfC qual scope s.heap.objs.size fa cdv)) → ∀ (C : Ct), (∀ a, ¬ C.B a) → ∀ x, GK (bX P w K mg base N qual scope fa cdv A outer s H E) C (wpB (bX P w K mg base N qual scope fa cdv A outer s H E) body) (Γ0 x) (f x) (goTop c fl))
    (hn : t.n = ps.length := by rfl) (hΓ : ∀ x, Γ0 x = en x ++ List.replicate (N.length - t.n) .no := by intro _; rfl) : FnOk P w K mg base CX0 (k + 1) fa fd ps (spP K t f c) := by
  refine F.ok S (fun vs H Q E h => ?_) fun cdv A outer s H vs Q E hr h => ⟨wpB (bX P w K mg base N qual scope fa cdv A outer s H E) body, PSs.nox pss_w, ?_⟩
  · obtain ⟨W, x, _, q, _⟩ := h
    rw [t.len q, hn]
  · obtain ⟨W, x, sb, q, z, hz, kk⟩ := h
    have s0 := start_sat (N := N) (m := N.length - t.n) hp q sb
    rw [← hΓ x] at s0
    have gr : ∀ {Γ' : En K} {σ' W' H'}, Sat ⟨W, H, fun _ => False, none⟩ Γ' σ' W' H' → Grow W H W' H' := fun s' => ⟨s'.old, fun a o h => s'.fr a o h (fun z => z) (fun z => nomatch z), s'.sub, s'.nw⟩
    refine (hb cdv A outer s H E hr ⟨W, H, fun _ => False, none⟩ (fun _ z => z) x).run z _ W H _ s0 hz (fun Γ' r' σ' W' H' j hr' s' _ => ?_) (fun _ _ _ _ _ j => j.elim) (fun _ _ _ _ _ j => j.elim) (fun y v Γ' σ' W' H' e s' _ q' => ?_)
    · obtain ⟨z', e1, e2⟩ := j
      rw [hr'] at e1; cases e1
      exact kk W' H' .non (gr s') (hfl z e2 W')
    · have e : y = z := e
      subst e
      exact kk W' H' v (gr s') q'
theorem fn_topN {t : TC K α} {en : α → En K} {f : α → Option β} {c : Cel K β} (F : FunD K nm qual params body scope [] [] fa fd) (S : FnScope N ps scope) (hp : PEn t en) (Γ0 : α → En K)
    (hb : ∀ cdv A outer s H E, Room k (A.deeper (envOfC qual scope s.heap.objs.size fa cdv)) → ∀ (C : Ct), (∀ a, ¬ C.B a) → ∀ x, GK (bX P w K mg base N qual scope fa cdv A outer s H E) C (wpB (bX P w K mg base N qual scope fa cdv A outer s H E) body) (Γ0 x) (f x) (goTopN C c))
    (hn : t.n = ps.length := by rfl) (hΓ : ∀ x, Γ0 x = en x ++ List.replicate (N.length - t.n) .no := by intro _; rfl) : FnOk P w K mg base CX0 (k + 1) fa fd ps (spN K t f c) := by
  refine F.ok S (fun vs H Q E h => ?_) fun cdv A outer s H vs Q E hr h => ⟨wpB (bX P w K mg base N qual scope fa cdv A outer s H E) body, PSs.nox pss_w, ?_⟩
  · obtain ⟨W, x, _, q, _⟩ := h
    rw [t.len q, hn]
  · obtain ⟨W, x, sb, q, z, hz, kk⟩ := h
    have s0 := start_sat (N := N) (m := N.length - t.n) hp q sb
    rw [← hΓ x] at s0
    have gr : ∀ {Γ' : En K} {σ' W' H'}, Sat ⟨W, H, fun _ => False, none⟩ Γ' σ' W' H' → Grow W H W' H' := fun s' => ⟨s'.old, fun a o h => s'.fr a o h (fun z => z) (fun z => nomatch z), s'.sub, s'.nw⟩
    refine (hb cdv A outer s H E hr ⟨W, H, fun _ => False, none⟩ (fun _ z => z) x).run z _ W H _ s0 hz (fun _ _ _ _ _ j => j.elim) (fun _ _ _ _ _ j => j.elim) (fun _ _ _ _ _ j => j.elim) (fun y v Γ' σ' W' H' e s' _ q' => ?_)
    have e : y = z := e
    subst e
    obtain ⟨p, o, rfl, h1, h2, h3, h4⟩ := q'
    exact kk W' H' p o (gr s') h1 h2 h3 h4
theorem fn_topL {t : TC K α} {en : α → En K} {ce : Cel K τ} {f : τ → α → Option (β × τ)} {c : Cod K β} (F : FunD K nm qual params body scope [] [] fa fd) (S : FnScope N ps scope) (hp : PEn t en) (Γ0 : τ → α → En K)
    (hb : ∀ cdv A outer s H E, Room k (A.deeper (envOfC qual scope s.heap.objs.size fa cdv)) → ∀ (C : Ct), (∀ a, ¬ C.B a) → ∀ tp x, GK (bX P w K mg base N qual scope fa cdv A outer s H E) C (wpB (bX P w K mg base N qual scope fa cdv A outer s H E) body) (Γ0 tp x) (f tp x) (goTopL C c ce))
    (hn : t.n + 1 = ps.length := by rfl) (hΓ : ∀ tp x, Γ0 tp x = .lp :: (en x ++ (List.replicate (N.length - (t.n + 1)) .no ++ [.ln ce tp])) := by intro _ _; rfl) : FnOk P w K mg base CX0 (k + 1) fa fd ps (spM K ce t f c) := by
  refine F.ok S (fun vs H Q E h => ?_) fun cdv A outer s H vs Q E hr h => ⟨wpB (bX P w K mg base N qual scope fa cdv A outer s H E) body, PSs.nox pss_w, ?_⟩
  · obtain ⟨W, a, o, us, tp, x, rfl, _, _, _, _, q, _⟩ := h
    rw [List.length_cons, t.len q, hn]
  · obtain ⟨W, a, o, us, tp, x, rfl, sb, wa, ha, hc, q, z, hz, kk⟩ := h
    have s0 := start_satL (N := N) (m := N.length - (t.n + 1)) hp q sb wa ha hc
    rw [← hΓ tp x] at s0
    refine (hb cdv A outer s H E hr ⟨W, H, fun _ => False, some a⟩ (fun _ z => z) tp x).run z _ W H _ s0 hz (fun _ _ _ _ _ j => j.elim) (fun _ _ _ _ _ j => j.elim) (fun _ _ _ _ _ j => j.elim) (fun y v Γ' σ' W' H' e s' _ q' => ?_)
    have e : y = z := e
    subst e
    obtain ⟨h1, a', o', h2, h3, h4⟩ := q'
    cases h2
    exact kk W' H' v o' s'.old s'.sub (fun b u hb h => s'.fr b u h (fun z => z) fun z => hb (Option.some.inj z).symm) s'.nw h3 h4 h1
theorem fn_topNL {t : TC K α} {en : α → En K} {ce : Cel K τ} {f : τ → α → Option (β × τ)} {c : Cel K β} (F : FunD K nm qual params body scope [] [] fa fd) (S : FnScope N ps scope) (hp : PEn t en) (Γ0 : τ → α → En K)
    (hb : ∀ cdv A outer s H E, Room k (A.deeper (envOfC qual scope s.heap.objs.size fa cdv)) → ∀ (C : Ct), (∀ a, ¬ C.B a) → ∀ tp x, GK (bX P w K mg base N qual scope fa cdv A outer s H E) C (wpB (bX P w K mg base N qual scope fa cdv A outer s H E) body) (Γ0 tp x) (f tp x) (goTopNL C c ce))
    (hn : t.n + 1 = ps.length := by rfl) (hΓ : ∀ tp x, Γ0 tp x = .lp :: (en x ++ (List.replicate (N.length - (t.n + 1)) .no ++ [.ln ce tp])) := by intro _ _; rfl) : FnOk P w K mg base CX0 (k + 1) fa fd ps (spMN K ce t f c) := by
  refine F.ok S (fun vs H Q E h => ?_) fun cdv A outer s H vs Q E hr h => ⟨wpB (bX P w K mg base N qual scope fa cdv A outer s H E) body, PSs.nox pss_w, ?_⟩
  · obtain ⟨W, a, o, us, tp, x, rfl, _, _, _, _, q, _⟩ := h
    rw [List.length_cons, t.len q, hn]
  · obtain ⟨W, a, o, us, tp, x, rfl, sb, wa, ha, hc, q, z, hz, kk⟩ := h
    have s0 := start_satL (N := N) (m := N.length - (t.n + 1)) hp q sb wa ha hc
    rw [← hΓ tp x] at s0
    refine (hb cdv A outer s H E hr ⟨W, H, fun _ => False, some a⟩ (fun _ z => z) tp x).run z _ W H _ s0 hz (fun _ _ _ _ _ j => j.elim) (fun _ _ _ _ _ j => j.elim) (fun _ _ _ _ _ j => j.elim) (fun y v Γ' σ' W' H' e s' _ q' => ?_)
    have e : y = z := e
    subst e
    obtain ⟨⟨p, o2, rfl, g1, g2, g3, g4⟩, a', o', h2, h3, h4⟩ := q'
    cases h2
    exact kk W' H' p o2 o' s'.old s'.sub (fun b u hb h => s'.fr b u h (fun z => z) fun z => hb (Option.some.inj z).symm) s'.nw h3 h4 g1 g2 g3 g4
theorem fnp_of {x : Str} {sp : Sp} (hm : mg x = some (.ref fa)) (F : FunD K nm qual params body scope [] [] fa fd) (G : FnOk P w K mg base CX0 k fa fd ps sp)
    (h : ∀ (kV doc pm : Value) (an : Option Addr) (cdv ct : Value) (us : List Value), us.length = ps.length → bindArgs (PySem.W.fnOf nm qual params body scope .none kV doc pm an cdv ct) ⟨us, []⟩ = pure (ps.zip us)) : FnP P w K mg base x k ps sp :=
  ⟨fa, fd, hm, F.kp, F.bindsN h, G⟩
end
/-! ### calls that change what they are lent -/
section
variable {X : Cx} {C : Ct} {ρ α β γ τ : Type} {Γ : En X.K} {e a b : Expr} {es : List Expr} {r : Option ρ} {x n : Str} {pos p p2 p3 : Pos}
theorem Sat.lent {σ : L2.St} {W H : Hp} {m : Nat} {ce : Cel X.K τ} {tp : τ} (s : Sat C Γ σ W H) (h : Γ[m]? = some (.ln ce tp)) : ∃ a o, C.a = some a ∧ W a = none ∧ H a = some o ∧ ce.ct W o tp := s.sl m _ h
theorem ex_callL {t : TC X.K α} {c : Cod X.K β} {ce : Cel X.K τ} {f : τ → α → Option (β × τ)} {J : β → En X.K → Option ρ → Prop} {k : Nat} {ps : List Str} (i m : Nat) (F : FnP X.prog X.w X.K X.mg X.base x k ps (spM X.K ce t f c)) (hr : Room k X.A)
    (h : EA X C Γ es t r fun y Γ1 r1 => ∃ tp, Γ1[m]? = some (.ln ce tp) ∧ lnU m 0 Γ1 = true ∧ ∃ k, r1 = f tp y >>= k ∧ ∀ z, J z.1 (Γ1.set m (.ln ce z.2)) (k z)) (hΓ : Γ[i]? = some .lp := by rfl) (hN : X.N[i]? = some n := by rfl)
    (hv : Vis X.env.scope n := by first | exact Or.inl rfl | exact Or.inr (Or.inl rfl) | exact Or.inr (Or.inr rfl)) (hd : (n == ("__debug__" : Str)) = false := by decide) (hcd : (n == ("__classdict__" : Str)) = false := by decide)
    (hg : Gl X x := by rfl) (hdb : (x == ("__debug__" : Str)) = false := by decide)
    (he : starEach (.Name n p2 :: es) X.env = (false, eval (.Name n p2) X.env) :: starEach es X.env := by rfl) (hpl : (backTo pos (starEach es X.env)).any (·.1) = false := by rfl) : EX X C Γ (.Call (.Name x p) (.Name n p2 :: es) [] pos) c r J := .mk fun z σ W H Q s hrr kk => by
  obtain ⟨fa, fd, h1, h2, h3, h4⟩ := F.ex
  refine w_pe (pe_call h4 hr hg h1 h2 h3 .nil pass0 (pa_cons (pe_var hN hv hd hcd) pa_w he) hdb he hpl) ?_
  obtain ⟨la, ca, ea⟩ := s.sl i _ hΓ
  refine ⟨_, getD_some ea, h z σ W H _ s hrr fun y Γ1 r1 W1 H1 vs j1 hr1 s1 w1 q1 => ?_⟩
  obtain ⟨tp, g1, g2, k2, e2, j2⟩ := j1
  rw [e2] at hr1
  obtain ⟨t2, et, ht⟩ := bind_some hr1
  obtain ⟨la', o, ca', wa, ha, hc⟩ := s1.lent g1
  rw [ca] at ca'; cases ca'
  rw [List.append_nil]
  exact ⟨W1, la, o, vs, tp, y, rfl, s1.sub, wa, ha, hc, q1, t2, et, fun W2 H2 v o' w2 sub2 hh nw2 ha2 hc2 q2 => kk t2.1 _ _ W2 H2 v (j2 t2) ht (s1.turnL g1 ca w2 sub2 nw2 hh ha2 hc2 g2) (w1.trans w2) q2⟩
theorem ef_callL {t : TC X.K α} {c : Cel X.K β} {ce : Cel X.K τ} {f : τ → α → Option (β × τ)} {J : β → En X.K → Option ρ → Prop} {k : Nat} {ps : List Str} (i m : Nat) (F : FnP X.prog X.w X.K X.mg X.base x k ps (spMN X.K ce t f c)) (hr : Room k X.A)
    (h : EA X C Γ es t r fun y Γ1 r1 => ∃ tp, Γ1[m]? = some (.ln ce tp) ∧ lnU m 0 Γ1 = true ∧ ∃ k, r1 = f tp y >>= k ∧ ∀ z, J z.1 (Γ1.set m (.ln ce z.2)) (k z)) (hΓ : Γ[i]? = some .lp := by rfl) (hN : X.N[i]? = some n := by rfl)
    (hv : Vis X.env.scope n := by first | exact Or.inl rfl | exact Or.inr (Or.inl rfl) | exact Or.inr (Or.inr rfl)) (hd : (n == ("__debug__" : Str)) = false := by decide) (hcd : (n == ("__classdict__" : Str)) = false := by decide)
    (hg : Gl X x := by rfl) (hdb : (x == ("__debug__" : Str)) = false := by decide)
    (he : starEach (.Name n p2 :: es) X.env = (false, eval (.Name n p2) X.env) :: starEach es X.env := by rfl) (hpl : (backTo pos (starEach es X.env)).any (·.1) = false := by rfl) : EF X C Γ (.Call (.Name x p) (.Name n p2 :: es) [] pos) c r J := .mk fun z σ W H Q s hrr kk => by
  obtain ⟨fa, fd, h1, h2, h3, h4⟩ := F.ex
  refine w_pe (pe_call h4 hr hg h1 h2 h3 .nil pass0 (pa_cons (pe_var hN hv hd hcd) pa_w he) hdb he hpl) ?_
  obtain ⟨la, ca, ea⟩ := s.sl i _ hΓ
  refine ⟨_, getD_some ea, h z σ W H _ s hrr fun y Γ1 r1 W1 H1 vs j1 hr1 s1 w1 q1 => ?_⟩
  obtain ⟨tp, g1, g2, k2, e2, j2⟩ := j1
  rw [e2] at hr1
  obtain ⟨t2, et, ht⟩ := bind_some hr1
  obtain ⟨la', o, ca', wa, ha, hc⟩ := s1.lent g1
  rw [ca] at ca'; cases ca'
  rw [List.append_nil]
  refine ⟨W1, la, o, vs, tp, y, rfl, s1.sub, wa, ha, hc, q1, t2, et, fun W2 H2 pp o2 o' w2 sub2 hh nw2 ha2 hc2 wp hp h2p ct => ?_⟩
  have cp : C.H pp = none := by
    cases q : C.H pp with
    | none => rfl
    | some u => exact absurd hp (s1.li pp (by rw [q]; simp))
  have s2 := s1.turnL g1 ca w2 sub2 nw2 hh ha2 hc2 g2
  exact kk t2.1 _ _ W2 H2 pp o2 (j2 t2) ht s2 (w1.trans w2) wp cp h2p ct (fun j oj => s1.apart hp j (own_ne oj fun z => by subst z; exact own_no rfl oj)) fun z => s1.lb pp (.inr z) hp
/-- .. a name's own -/
theorem ex_callO {t : TC X.K α} {c : Cod X.K β} {ce : Cel X.K τ} {f : τ → α → Option (β × τ)} {J : β → En X.K → Option ρ → Prop} {k : Nat} {ps : List Str} (i : Nat) (F : FnP X.prog X.w X.K X.mg X.base x k ps (spM X.K ce t f c)) (hr : Room k X.A) {tp0 : τ}
    (h : EA X C Γ es t r fun y Γ1 r1 => ∃ tp, Γ1[i]? = some (.ow ce tp) ∧ ∃ k, r1 = f tp y >>= k ∧ ∀ z, J z.1 (Γ1.set i (.ow ce z.2)) (k z)) (hΓ : Γ[i]? = some (.ow ce tp0) := by rfl) (hN : X.N[i]? = some n := by rfl)
    (hv : Vis X.env.scope n := by first | exact Or.inl rfl | exact Or.inr (Or.inl rfl) | exact Or.inr (Or.inr rfl)) (hd : (n == ("__debug__" : Str)) = false := by decide) (hcd : (n == ("__classdict__" : Str)) = false := by decide)
    (hg : Gl X x := by rfl) (hdb : (x == ("__debug__" : Str)) = false := by decide)
    (he : starEach (.Name n p2 :: es) X.env = (false, eval (.Name n p2) X.env) :: starEach es X.env := by rfl) (hpl : (backTo pos (starEach es X.env)).any (·.1) = false := by rfl) : EX X C Γ (.Call (.Name x p) (.Name n p2 :: es) [] pos) c r J := .mk fun z σ W H Q s hrr kk => by
  obtain ⟨fa, fd, h1, h2, h3, h4⟩ := F.ex
  refine w_pe (pe_call h4 hr hg h1 h2 h3 .nil pass0 (pa_cons (pe_var hN hv hd hcd) pa_w he) hdb he hpl) ?_
  obtain ⟨la, o0, ea, ha0, hc0⟩ := s.seen hΓ
  refine ⟨_, ea, h z σ W H _ s hrr fun y Γ1 r1 W1 H1 vs j1 hr1 s1 w1 q1 => ?_⟩
  obtain ⟨tp, g1, k2, e2, j2⟩ := j1
  rw [e2] at hr1
  obtain ⟨t2, et, ht⟩ := bind_some hr1
  obtain ⟨la', o, ea', wa, _, ha, hc⟩ := s1.sl i _ g1
  have ea' := getD_some ea'
  rw [ea] at ea'; cases ea'
  rw [List.append_nil]
  exact ⟨W1, la, o, vs, tp, y, rfl, s1.sub, wa, ha, hc, q1, t2, et, fun W2 H2 v o' w2 sub2 hh nw2 ha2 hc2 q2 => kk t2.1 _ _ W2 H2 v (j2 t2) ht (s1.turn g1 ea w2 sub2 nw2 hh ha2 hc2) (w1.trans w2) q2⟩
theorem ef_callO {t : TC X.K α} {c : Cel X.K β} {ce : Cel X.K τ} {f : τ → α → Option (β × τ)} {J : β → En X.K → Option ρ → Prop} {k : Nat} {ps : List Str} (i : Nat) (F : FnP X.prog X.w X.K X.mg X.base x k ps (spMN X.K ce t f c)) (hr : Room k X.A) {tp0 : τ}
    (h : EA X C Γ es t r fun y Γ1 r1 => ∃ tp, Γ1[i]? = some (.ow ce tp) ∧ ∃ k, r1 = f tp y >>= k ∧ ∀ z, J z.1 (Γ1.set i (.ow ce z.2)) (k z)) (hΓ : Γ[i]? = some (.ow ce tp0) := by rfl) (hN : X.N[i]? = some n := by rfl)
    (hv : Vis X.env.scope n := by first | exact Or.inl rfl | exact Or.inr (Or.inl rfl) | exact Or.inr (Or.inr rfl)) (hd : (n == ("__debug__" : Str)) = false := by decide) (hcd : (n == ("__classdict__" : Str)) = false := by decide)
    (hg : Gl X x := by rfl) (hdb : (x == ("__debug__" : Str)) = false := by decide)
    (he : starEach (.Name n p2 :: es) X.env = (false, eval (.Name n p2) X.env) :: starEach es X.env := by rfl) (hpl : (backTo pos (starEach es X.env)).any (·.1) = false := by rfl) : EF X C Γ (.Call (.Name x p) (.Name n p2 :: es) [] pos) c r J := .mk fun z σ W H Q s hrr kk => by
  obtain ⟨fa, fd, h1, h2, h3, h4⟩ := F.ex
  refine w_pe (pe_call h4 hr hg h1 h2 h3 .nil pass0 (pa_cons (pe_var hN hv hd hcd) pa_w he) hdb he hpl) ?_
  obtain ⟨la, o0, ea, ha0, hc0⟩ := s.seen hΓ
  refine ⟨_, ea, h z σ W H _ s hrr fun y Γ1 r1 W1 H1 vs j1 hr1 s1 w1 q1 => ?_⟩
  obtain ⟨tp, g1, k2, e2, j2⟩ := j1
  rw [e2] at hr1
  obtain ⟨t2, et, ht⟩ := bind_some hr1
  obtain ⟨la', o, ea', wa, _, ha, hc⟩ := s1.sl i _ g1
  have ea' := getD_some ea'
  rw [ea] at ea'; cases ea'
  rw [List.append_nil]
  refine ⟨W1, la, o, vs, tp, y, rfl, s1.sub, wa, ha, hc, q1, t2, et, fun W2 H2 pp o2 o' w2 sub2 hh nw2 ha2 hc2 wp hp h2p ct => ?_⟩
  have cp : C.H pp = none := by
    cases q : C.H pp with
    | none => rfl
    | some u => exact absurd hp (s1.li pp (by rw [q]; simp))
  have s2 := s1.turn g1 ea w2 sub2 nw2 hh ha2 hc2
  exact kk t2.1 _ _ W2 H2 pp o2 (j2 t2) ht s2 (w1.trans w2) wp cp h2p ct (fun j oj => by
    by_cases hj : j = i
    · subst hj; exact s1.apart hp j ⟨_, g1, rfl⟩
    · exact s1.apart hp j (own_ne oj hj)) fun z => s1.lb pp (.inr z) hp
/-- return e, what was lent stands at m -/
theorem gs_retL {T : Go X.K (α × τ) β} {r : Option β} {c : Cod X.K α} {ce : Cel X.K τ} (m : Nat) (h : EX X C Γ e c r fun x Γ1 r1 => ∃ tp, Γ1[m]? = some (.ln ce tp) ∧ r1 = some (T.ret (x, tp))) (hR : T.R = RetL C c ce := by rfl) : GK X C (wpS X (.Return (some e) pos)) Γ r T := GK.mk fun z σ W H D s hr kn kb kc kr =>
  w_ps (ps_ret pe_w) (h z σ W H _ s hr fun x Γ1 r1 W1 H1 v j1 hr1 s1 w1 q1 => by
    obtain ⟨tp, g1, e1⟩ := j1
    obtain ⟨a, o, ca, _, ha, hc⟩ := s1.lent g1
    exact kr (x, tp) v Γ1 σ W1 H1 (by rw [e1] at hr1; exact Option.some.inj hr1) s1 w1 (by rw [hR]; exact ⟨q1, a, o, ca, ha, hc⟩))
theorem gs_retNL {T : Go X.K (α × τ) β} {r : Option β} {c : Cel X.K α} {ce : Cel X.K τ} (m : Nat) (h : EF X C Γ e c r fun x Γ1 r1 => ∃ tp, Γ1[m]? = some (.ln ce tp) ∧ r1 = some (T.ret (x, tp))) (hR : T.R = RetNL C c ce := by rfl) : GK X C (wpS X (.Return (some e) pos)) Γ r T := GK.mk fun z σ W H D s hr kn kb kc kr =>
  w_ps (ps_ret pe_w) (h z σ W H _ s hr fun x Γ1 r1 W1 H1 p o j1 hr1 s1 w1 wp cp hp ct ap lap => by
    obtain ⟨tp, g1, e1⟩ := j1
    obtain ⟨a, o', ca, _, ha, hc⟩ := s1.lent g1
    exact kr (x, tp) _ Γ1 σ W1 H1 (by rw [e1] at hr1; exact Option.some.inj hr1) s1 w1 (by rw [hR]; exact ⟨⟨p, o, rfl, wp, cp, hp, ct⟩, a, o', ca, ha, hc⟩))
theorem gs_retOL {T : Go X.K (α × τ) β} {r : Option β} {c : Cel X.K α} {ce : Cel X.K τ} {y : α} {tp : τ} (i m : Nat) (hr0 : r = some (T.ret (y, tp))) (hB : ∀ a, ¬ C.B a) (hR : T.R = RetNL C c ce := by rfl) (hm : Γ[m]? = some (.ln ce tp) := by rfl) (hN : X.N[i]? = some n := by rfl) (hΓ : Γ[i]? = some (.ow c y) := by rfl)
    (hv : Vis X.env.scope n := by first | exact Or.inl rfl | exact Or.inr (Or.inl rfl) | exact Or.inr (Or.inr rfl)) (hd : (n == ("__debug__" : Str)) = false := by decide) (hcd : (n == ("__classdict__" : Str)) = false := by decide) :
    GK X C (wpS X (.Return (some (.Name n p)) pos)) Γ r T := GK.mk fun z σ W H D s hr kn kb kc kr =>
  w_ps (ps_ret (pe_var hN hv hd hcd)) (by
    obtain ⟨ad, o, e1, e2, e3, e4, e5⟩ := s.sl i _ hΓ
    obtain ⟨a, o', ca, _, ha, hc⟩ := s.lent hm
    exact ⟨_, getD_some e1, kr (y, tp) _ Γ σ W H (by rw [hr0] at hr; exact Option.some.inj hr) s (Same.refl _) (by rw [hR]; exact ⟨⟨ad, o, rfl, e2, e3.resolve_right (hB ad), e4, e5⟩, a, o', ca, ha, hc⟩)⟩)
end
end Ty

set_option maxHeartbeats 4000000
namespace Ty
open PySem PySem.Spec PyProof.Rows L2

section
variable {X : Cx} {C : Ct} {ρ α β γ τ : Type} {Γ : En X.K} {e a b : Expr} {es : List Expr} {r : Option ρ} {x n : Str} {pos p p2 p3 : Pos}
theorem wk_freeze {K : Frag} {C : Ct} {Γ Γ' : En K} {α : Type} {c : Cod K α} {xs : List α} (i : Nat) (hB : ∀ a, ¬ C.B a) (hi : Γ[i]? = some (.ow (lstC c) xs) := by rfl) (h : Γ.set i (.im (cLst c) xs) = Γ' := by rfl) : Wk C Γ Γ' := fun σ W H s => by
  subst h
  exact s.freeze hi fun a z => absurd z (hB a)

/-! never None -/
structure NN {K : Frag} {α : Type} (c : Cod K α) : Prop where
  nn : ∀ {H v x}, c.rp H v x → v ≠ .non
theorem nnI {K : Frag} : NN (cInt (K := K)) := ⟨fun h => by cases h; intro z; cases z⟩
theorem nnB {K : Frag} : NN (cBool (K := K)) := ⟨fun h => by cases h; intro z; cases z⟩
theorem nnS {K : Frag} : NN (cStr (K := K)) := ⟨fun h => by cases h; intro z; cases z⟩
theorem nnT {K : Frag} {t : TC K α} : NN (cTup t) := ⟨fun ⟨a, vs, h, _⟩ => by rw [h]; intro z; cases z⟩
theorem nnQ {K : Frag} {c : Cod K α} : NN (cSeq c) := ⟨fun ⟨a, vs, h, _⟩ => by rw [h]; intro z; cases z⟩
theorem nnL {K : Frag} {c : Cod K α} : NN (cLst c) := ⟨fun ⟨a, vs, h, _⟩ => by rw [h]; intro z; cases z⟩
theorem ex_some {c : Cod X.K α} {J : Option α → En X.K → Option ρ → Prop} (nn : NN c) (h : EX X C Γ e c r fun x Γ' r' => J (some x) Γ' r') : EX X C Γ e (cOpt c) r J := ex_as some (fun q => ⟨nn.nn q, q⟩) h
theorem ex_non {c : Cod X.K α} {J : Option α → En X.K → Option ρ → Prop} {j} (h : J none Γ r) : EX X C Γ (.Constant .none j pos) (cOpt c) r J := ex_as (c := cNon) (fun _ => none) (fun q => q) (ex_none h)
/-- an optional value that is one -/
theorem ex_get {c : Cod X.K α} {J : α → En X.K → Option ρ → Prop} (h : EX X C Γ e (cOpt c) r fun x Γ' r' => ∃ k, r' = x >>= k ∧ ∀ y, J y Γ' (k y)) : EX X C Γ e c r J := .mk fun z σ W H Q s hr k =>
  h z σ W H Q s hr fun x Γ' r' W' H' v j hr' s' w q => by
    obtain ⟨k2, e2, j2⟩ := j
    rw [e2] at hr'
    obtain ⟨y, ey, ht⟩ := bind_some hr'
    subst ey
    exact k y Γ' _ W' H' v (j2 y) ht s' w q.2
theorem ex_isN {c : Cod X.K α} {J : Bool → En X.K → Option ρ → Prop} {j p2} (h : EX X C Γ a (cOpt c) r fun x Γ1 r1 => J (x.isNone) Γ1 r1) : EX X C Γ (.Compare a [.Is] [.Constant .none j p2] pos) cBool r J := .mk fun z σ W H Q s hr k =>
  w_pe (pe_cmp (pc_isN pe_w)) (h z σ W H _ s hr fun x Γ1 r1 W1 H1 v j1 hr1 s1 w1 q1 => by
    have e : decide (v = V.non) = x.isNone := by
      cases x with
      | none => rw [show v = V.non from q1]; rfl
      | some y => exact decide_eq_false q1.1
    exact k _ Γ1 r1 W1 H1 _ j1 hr1 s1 w1 (by rw [e]; rfl))
theorem ex_notN {c : Cod X.K α} {J : Bool → En X.K → Option ρ → Prop} {j p2} (h : EX X C Γ a (cOpt c) r fun x Γ1 r1 => J (x.isSome) Γ1 r1) : EX X C Γ (.Compare a [.IsNot] [.Constant .none j p2] pos) cBool r J := .mk fun z σ W H Q s hr k =>
  w_pe (pe_cmp (pc_notN pe_w)) (h z σ W H _ s hr fun x Γ1 r1 W1 H1 v j1 hr1 s1 w1 q1 => by
    have e : (!decide (v = V.non)) = x.isSome := by
      cases x with
      | none => rw [show v = V.non from q1]; rfl
      | some y => rw [decide_eq_false q1.1]; rfl
    exact k _ Γ1 r1 W1 H1 _ j1 hr1 s1 w1 (by rw [e]; rfl))

/-! values at large -/
def U.isNon : U → Option Bool
  | .non => some true
  | .opq => none
  | _ => some false
theorem u_non {K : Frag} {H : Hp} {v : V} {x : U} {b : Bool} (h : rpU K H x v) (e : x.isNon = some b) : decide (v = V.non) = b := by
  cases x with
  | non => cases h; cases e; rfl
  | bl _ => cases h; cases e; rfl
  | int _ => cases h; cases e; rfl
  | str _ => cases h; cases e; rfl
  | tup _ => obtain ⟨a, vs, rfl, _⟩ := h; cases e; rfl
  | lst _ => obtain ⟨a, vs, rfl, _⟩ := h; cases e; rfl
  | opq => cases e
theorem et_isU {J : Bool → En X.K → Option ρ → Prop} {j p2} (h : EX X C Γ a cU r fun x Γ1 r1 => ∃ k, r1 = x.isNon >>= k ∧ ∀ z, J z Γ1 (k z)) : ET X C Γ (.Compare a [.Is] [.Constant .none j p2] pos) r J := .mk fun z σ W H Q s hr k =>
  w_pt (pt_cmp (pc_isN pe_w)) (h z σ W H _ s hr fun x Γ1 r1 W1 H1 v j1 hr1 s1 w1 q1 => by
    obtain ⟨k2, e2, j2⟩ := j1
    rw [e2] at hr1
    obtain ⟨t, et, ht⟩ := bind_some hr1
    exact ⟨_, rfl, by rw [u_non q1 et]; exact k _ Γ1 _ W1 H1 (j2 t) ht s1 w1⟩)
theorem ex_isU {J : Bool → En X.K → Option ρ → Prop} {j p2} (h : EX X C Γ a cU r fun x Γ1 r1 => ∃ k, r1 = x.isNon >>= k ∧ ∀ z, J z Γ1 (k z)) : EX X C Γ (.Compare a [.Is] [.Constant .none j p2] pos) cBool r J := .mk fun z σ W H Q s hr k =>
  w_pe (pe_cmp (pc_isN pe_w)) (h z σ W H _ s hr fun x Γ1 r1 W1 H1 v j1 hr1 s1 w1 q1 => by
    obtain ⟨k2, e2, j2⟩ := j1
    rw [e2] at hr1
    obtain ⟨t, et, ht⟩ := bind_some hr1
    exact k t Γ1 _ W1 H1 _ (j2 t) ht s1 w1 (by rw [u_non q1 et]; rfl))
def U.get : U → Int → Option U
  | .tup l, i => atI l i
  | _, _ => none
theorem rpUs.get {K : Frag} {H : Hp} : ∀ {us : List U} {vs : List V} {i : Nat} {x : U}, rpUs K H us vs → us[i]? = some x → ∃ v, vs[i]? = some v ∧ rpU K H x v
  | [], _, _, _, _, e => by simp at e
  | u :: us, _, 0, x, ⟨v, r, rfl, h2, h3⟩, e => by simp at e; subst e; exact ⟨v, rfl, h2⟩
  | u :: us, _, i + 1, x, ⟨v, r, rfl, h2, h3⟩, e => by
    obtain ⟨w, q1, q2⟩ := rpUs.get (i := i) h3 (by simpa using e)
    exact ⟨w, by simpa using q1, q2⟩
theorem ex_ixU {J : U → En X.K → Option ρ → Prop} (h : EX X C Γ a cU r fun x Γ1 r1 => EX X C Γ1 b cInt r1 fun i Γ2 r2 => ∃ k, r2 = U.get x i >>= k ∧ ∀ z, J z Γ2 (k z)) (hp : PlainIx b := by exact fun _ _ => rfl) :
    EX X C Γ (.Subscript a b pos) cU r J := .mk fun z σ W H Q s hr k =>
  w_pe (pe_ix ix_tup pe_w pe_w hp) (h z σ W H _ s hr fun x Γ1 r1 W1 H1 v j1 hr1 s1 w1 q1 => j1 z σ W1 H1 _ s1 hr1 fun i Γ2 r2 W2 H2 u j2 hr2 s2 w2 q2 => by
    obtain ⟨k2, e2, j2⟩ := j2
    rw [e2] at hr2
    obtain ⟨t, et, ht⟩ := bind_some hr2
    cases x with
    | tup l =>
      obtain ⟨ad, vs, rfl, h2, h3⟩ := q1
      have et : atI l i = some t := et
      unfold atI at et
      cases hj : ixN l.length i with
      | none => rw [hj] at et; cases et
      | some jn =>
        rw [hj] at et
        have h3' := h3.mono w2
        obtain ⟨w, f1, f2⟩ := rpUs.get h3' (show l[jn]? = some t from et)
        refine ⟨ad, vs, i, w, rfl, q2, Same.tup s2.sub (Same.tup w2 h2), ?_, k t Γ2 _ W2 H2 w (j2 t) ht s2 (w1.trans w2) f2⟩
        unfold atI
        rw [rpUs.length h3', hj]
        exact f1
    | _ => cases et)
def U.eq : U → U → Option Bool
  | .int i, .int j => some (decide (i = j))
  | .bl i, .bl j => some (decide (i = j))
  | .str i, .str j => some (decide (i = j))
  | _, _ => none
theorem o_eqU : Op2 X (compareOp .Eq) cU cU cBool U.eq := ⟨_, op_eq, fun W H x y v u z Q sb h1 h2 e k => by
  cases x with
  | int i => cases y with
    | int j => cases h1; cases h2; cases e; exact ⟨rfl, k _ W H (Grow.refl sb) (by show V.bl _ = V.bl _; rw [dec_int, Bool.beq_eq_decide_eq])⟩
    | _ => cases e
  | bl i => cases y with
    | bl j => cases h1; cases h2; cases e; exact ⟨rfl, k _ W H (Grow.refl sb) (by show V.bl _ = V.bl _; rw [dec_bl, Bool.beq_eq_decide_eq])⟩
    | _ => cases e
  | str i => cases y with
    | str j => cases h1; cases h2; cases e; exact ⟨rfl, k _ W H (Grow.refl sb) (by show V.bl _ = V.bl _; rw [dec_str, Bool.beq_eq_decide_eq])⟩
    | _ => cases e
  | _ => cases e⟩
/-- a comparison that may not go -/
theorem ex_cmpP {op : CmpOp} {c1 : Cod X.K α} {c2 : Cod X.K β} {g : α → β → Option Bool} {J : Bool → En X.K → Option ρ → Prop} (o : Op2 X (compareOp op) c1 c2 cBool g)
    (h : EX X C Γ a c1 r fun x Γ1 r1 => EX X C Γ1 b c2 r1 fun y Γ2 r2 => ∃ k, r2 = g x y >>= k ∧ ∀ z, J z Γ2 (k z)) (hm : behindInMarks op b = false := by first | exact nomark _ | rfl) : EX X C Γ (.Compare a [op] [b] pos) cBool r J := .mk fun z σ W H Q s hr k => by
  obtain ⟨ro, ho, hf⟩ := o
  refine w_pe (pe_cmpR ho pe_w pe_w hm) (h z σ W H _ s hr fun x Γ1 r1 W1 H1 v j1 hr1 s1 w1 q1 => j1 z σ W1 H1 _ s1 hr1 fun y Γ2 r2 W2 H2 u j2 hr2 s2 w2 q2 => ?_)
  obtain ⟨k2, e2, j2⟩ := j2
  rw [e2] at hr2
  obtain ⟨t, et, ht⟩ := bind_some hr2
  exact hf W2 H2 x y v u t _ s2.sub (c1.mono w2 q1) q2 et fun w W3 H3 G q3 => k t Γ2 _ W3 H3 w (j2 t) ht (s2.grow G) ((w1.trans w2).trans G.w) q3

/-! the tape: what a law draws from -/
structure Tape where
  cells : List Int
  place : Int
  rest : Int
  mixed : Int
def celT {K : Frag} : Cel K Tape := ⟨fun W o t => ∃ c, o = .lst [.ref c, .int t.place, .int t.rest, .int t.mixed] ∧ W c = some (.lst (t.cells.map V.int)), fun e ⟨c, h, q⟩ => ⟨c, h, e _ _ q⟩, fun ⟨_, h, _⟩ => by rw [h]; trivial⟩
def Tape.fld (t : Tape) : Nat → Int
  | 1 => t.place
  | 2 => t.rest
  | _ => t.mixed
def Tape.put (t : Tape) : Nat → Int → Tape
  | 1, x => { t with place := x }
  | 2, x => { t with rest := x }
  | _, x => { t with mixed := x }
theorem ef_tape {J : Tape → En X.K → Option ρ → Prop} (h : EA X C Γ es (tcC (cLst cInt) (tcC cInt (tcC cInt (tc1 cInt)))) r fun x Γ1 r1 => J ⟨x.1, x.2.1, x.2.2.1, x.2.2.2⟩ Γ1 r1) : EF X C Γ (.List es pos) celT r J := .mk fun z σ W H Q s hr k =>
  w_pe (pe_lst pa_w) (h z σ W H _ s hr fun x Γ1 r1 W1 H1 vs j1 hr1 s1 w1 q1 => by
    obtain ⟨v1, r1', rfl, ⟨ad, us, rfl, h1, h2⟩, v2, r2', rfl, g2, v3, r3', rfl, g3, v4, rfl, g4⟩ := q1
    refine ⟨by show 4 ≤ sizeLine; decide, fun p hp => ?_⟩
    obtain ⟨s2, wp, cp, ap, la⟩ := s1.fresh (o := .lst [.ref ad, v2, v3, v4]) hp
    cases g2; cases g3; cases g4
    rw [h2.ints] at h1
    exact k _ Γ1 r1 _ _ p _ j1 hr1 s2 w1 wp cp upd_same ⟨ad, rfl, h1⟩ ap la)
/-- the name i is lent the tape -/
theorem ex_tapeF {J : Int → En X.K → Option ρ → Prop} {t : Tape} {kk : Nat} {j} (i m : Nat) (hJ : J (t.fld kk) Γ r) (hm : Γ[m]? = some (.ln celT t) := by rfl) (hk : kk = 1 ∨ kk = 2 ∨ kk = 3 := by decide) (hΓ : Γ[i]? = some .lp := by rfl) (hN : X.N[i]? = some n := by rfl)
    (hv : Vis X.env.scope n := by first | exact Or.inl rfl | exact Or.inr (Or.inl rfl) | exact Or.inr (Or.inr rfl)) (hd : (n == ("__debug__" : Str)) = false := by decide) (hcd : (n == ("__classdict__" : Str)) = false := by decide) :
    EX X C Γ (.Subscript (.Name n p) (.Constant (.int (kk : Int)) j p2) pos) cInt r J := .mk fun z σ W H Q s hr k =>
  w_pe (pe_ix ix_list (pe_var hN hv hd hcd) pe_int (fun _ _ => rfl)) (by
    obtain ⟨la, ca, ea⟩ := s.sl i _ hΓ
    obtain ⟨la', o, ca', wa, ha, c, rfl, hc⟩ := s.lent hm
    rw [ca] at ca'; cases ca'
    refine ⟨_, getD_some ea, la, _, (kk : Int), .int (t.fld kk), rfl, rfl, SqL.of ha, ?_, k _ Γ r W H _ hJ hr s (Same.refl _) rfl⟩
    rcases hk with rfl | rfl | rfl <;> rfl)
theorem ex_tape0 {J : List Int → En X.K → Option ρ → Prop} {t : Tape} {j} (i m : Nat) (hJ : J t.cells Γ r) (hm : Γ[m]? = some (.ln celT t) := by rfl) (hΓ : Γ[i]? = some .lp := by rfl) (hN : X.N[i]? = some n := by rfl)
    (hv : Vis X.env.scope n := by first | exact Or.inl rfl | exact Or.inr (Or.inl rfl) | exact Or.inr (Or.inr rfl)) (hd : (n == ("__debug__" : Str)) = false := by decide) (hcd : (n == ("__classdict__" : Str)) = false := by decide) :
    EX X C Γ (.Subscript (.Name n p) (.Constant (.int 0) j p2) pos) (cLst cInt) r J := .mk fun z σ W H Q s hr k =>
  w_pe (pe_ix ix_list (pe_var hN hv hd hcd) pe_int (fun _ _ => rfl)) (by
    obtain ⟨la, ca, ea⟩ := s.sl i _ hΓ
    obtain ⟨la', o, ca', wa, ha, c, rfl, hc⟩ := s.lent hm
    rw [ca] at ca'; cases ca'
    exact ⟨_, getD_some ea, la, _, 0, .ref c, rfl, rfl, SqL.of ha, rfl, k _ Γ r W H _ hJ hr s (Same.refl _) ⟨c, _, rfl, hc, Row.of_ints _⟩⟩)
theorem gs_tape {ρ' : Type} {r : Option β} {T : Go X.K ρ' β} {kk : Nat} {j} (i m : Nat)
    (h : EX X C Γ e cInt r fun x Γ1 r1 => Γ1[i]? = some .lp ∧ lnU m 0 Γ1 = true ∧ ∃ t, Γ1[m]? = some (.ln celT t) ∧ T.nx (Γ1.set m (.ln celT (t.put kk x))) r1) (hk : kk = 1 ∨ kk = 2 ∨ kk = 3 := by decide) (hN : X.N[i]? = some n := by rfl)
    (hv : Vis X.env.scope n := by first | exact Or.inl rfl | exact Or.inr (Or.inl rfl) | exact Or.inr (Or.inr rfl)) (hd : (n == ("__debug__" : Str)) = false := by decide) (hcd : (n == ("__classdict__" : Str)) = false := by decide)
    (ha : ∀ v, assign (.Subscript (.Name n p) (.Constant (.int (kk : Int)) j p3) p2) X.env v = (do
      let ov ← holding [v] (eval (.Name n p) X.env)
      let iv ← holding [v, ov] (eval (.Constant (.int (kk : Int)) j p3) X.env)
      standAt p2
      holding [v, ov, iv] (setItem ov iv v)
      release [v, ov, iv] []) := by intro _; rfl)
    (hs : swapsWithSole [.Subscript (.Name n p) (.Constant (.int (kk : Int)) j p3) p2] e pos.line X.env = pure false := by rfl) (hw : swappedStores [.Subscript (.Name n p) (.Constant (.int (kk : Int)) j p3) p2] e X.env = pure none := by rfl)
    (h1 : (assignEach [.Subscript (.Name n p) (.Constant (.int (kk : Int)) j p3) p2] X.env).map (·.2) = [assign (.Subscript (.Name n p) (.Constant (.int (kk : Int)) j p3) p2) X.env] := by rfl) :
    GK X C (wpS X (.Assign [.Subscript (.Name n p) (.Constant (.int (kk : Int)) j p3) p2] e pos)) Γ r T := GK.mk fun z σ W H D s hr kn kb kc kr => by
  refine w_ps (ps_asg pe_w (pg_sub (pe_var hN hv hd hcd) pe_int set_list ha) hs hw h1) (h z σ W H _ s hr fun x Γ1 r1 W1 H1 v j1 hr1 s1 w1 q1 => ?_)
  obtain ⟨hΓ, hu, t, hm, j1⟩ := j1
  obtain ⟨la, ca, ea⟩ := s1.sl i _ hΓ
  obtain ⟨la', o, ca', wa, hl, c, rfl, hc⟩ := s1.lent hm
  rw [ca] at ca'; cases ca'
  cases q1
  have fin : ∀ jn : Nat, ixN 4 (kk : Int) = some jn → ([V.ref c, .int t.place, .int t.rest, .int t.mixed] : List V).set jn (.int x) = [.ref c, .int (t.put kk x).place, .int (t.put kk x).rest, .int (t.put kk x).mixed] → (t.put kk x).cells = t.cells → 
      D.nx σ (upd H1 la (.lst (([V.ref c, .int t.place, .int t.rest, .int t.mixed] : List V).set jn (.int x)))) := fun jn _ e2 e3 => by
    rw [e2]
    refine kn _ r1 σ W1 _ j1 hr1 (s1.turnL hm ca (Same.refl _) (fun b u q => by rw [upd_ne (ne_of_none q wa)]; exact s1.sub b u q) (fun _ _ q => q) (fun b u hb q => by rw [upd_ne hb]; exact q) upd_same ⟨c, rfl, by rw [e3]; exact hc⟩ hu) w1
  refine ⟨_, getD_some ea, ?_⟩
  rcases hk with rfl | rfl | rfl
  · exact ⟨la, _, 1, 1, rfl, rfl, hl, rfl, fin 1 rfl rfl rfl⟩
  · exact ⟨la, _, 2, 2, rfl, rfl, hl, rfl, fin 2 rfl rfl rfl⟩
  · exact ⟨la, _, 3, 3, rfl, rfl, hl, rfl, fin 3 rfl rfl rfl⟩
end
end Ty

set_option maxHeartbeats 4000000
namespace Ty
open PySem PySem.Spec PyProof.Rows L2

/-! ### from values at large to typed ones -/
section
variable {K : Frag} {α β : Type}
structure DecP (c : Cod K α) (d : U → Option α) : Prop where
  ok : ∀ {H u v x}, d u = some x → rpU K H u v → c.rp H v x
structure DecR (t : TC K α) (d : List U → Option α) : Prop where
  ok : ∀ {H us vs x}, d us = some x → rpUs K H us vs → t.rp H vs x
def dInt : U → Option Int
  | .int i => some i
  | _ => none
def dBool : U → Option Bool
  | .bl i => some i
  | _ => none
def dStr : U → Option Str
  | .str i => some i
  | _ => none
def dTup (d : List U → Option α) : U → Option α
  | .tup l => d l
  | _ => none
def dR0 : List U → Option Unit
  | [] => some ()
  | _ => none
def dR1 (d : U → Option α) : List U → Option α
  | [u] => d u
  | _ => none
def dRC (d : U → Option α) (r : List U → Option β) : List U → Option (α × β)
  | u :: us => d u >>= fun x => r us >>= fun y => some (x, y)
  | _ => none
def dSeq (d : U → Option α) : U → Option (List α)
  | .tup l => mapR d l
  | _ => none
def dLst (d : U → Option α) : U → Option (List α)
  | .lst l => mapR d l
  | _ => none
def dOpt (d : U → Option α) : U → Option (Option α)
  | .non => some none
  | u => d u >>= fun x => some (some x)
theorem decI : DecP (cInt (K := K)) dInt := ⟨fun {H u v x} e h => by cases u <;> first | (cases e; exact h) | cases e⟩
theorem decB : DecP (cBool (K := K)) dBool := ⟨fun {H u v x} e h => by cases u <;> first | (cases e; exact h) | cases e⟩
theorem decS : DecP (cStr (K := K)) dStr := ⟨fun {H u v x} e h => by cases u <;> first | (cases e; exact h) | cases e⟩
theorem decU : DecP (cU (K := K)) some := ⟨fun {H u v x} e h => by cases e; exact h⟩
theorem decT {t : TC K α} {d : List U → Option α} (h : DecR t d) : DecP (cTup t) (dTup d) := ⟨fun {H u v x} e q => by
  cases u <;> first | cases e | skip
  obtain ⟨a, vs, rfl, h2, h3⟩ := q
  exact ⟨a, vs, rfl, h2, h.ok e h3⟩⟩
theorem decR0 : DecR (tc0 (K := K)) dR0 := ⟨fun {H us vs x} e q => by
  cases us with
  | nil => exact q
  | cons _ _ => cases e⟩
theorem decR1 {c : Cod K α} {d : U → Option α} (h : DecP c d) : DecR (tc1 c) (dR1 d) := ⟨fun {H us vs x} e q => by
  match us, e, q with
  | [u], e, ⟨v, r, hv, h1, h2⟩ => cases h2; exact ⟨v, hv, h.ok e h1⟩⟩
theorem decRC {c : Cod K α} {t : TC K β} {d : U → Option α} {r : List U → Option β} (h : DecP c d) (hr : DecR t r) : DecR (tcC c t) (dRC d r) := ⟨fun {H us vs x} e q => by
  match us, e, q with
  | u :: us, e, ⟨v, w, hv, h1, h2⟩ =>
    obtain ⟨x1, e1, e2⟩ := bind_some (show d u >>= _ = some x from e)
    obtain ⟨x2, e3, e4⟩ := bind_some e2
    cases e4
    exact ⟨v, w, hv, h.ok e1 h1, hr.ok e3 h2⟩⟩
theorem row_dec {c : Cod K α} {d : U → Option α} {H : Hp} (h : DecP c d) : ∀ {us : List U} {vs : List V} {xs : List α}, mapR d us = some xs → rpUs K H us vs → Row c H vs xs
  | [], _, _, e, q => by cases e; cases q; exact .nil
  | u :: us, _, _, e, ⟨v, w, hv, h1, h2⟩ => by
    obtain ⟨x1, e1, e2⟩ := bind_some (show d u >>= _ = some _ from e)
    obtain ⟨x2, e3, e4⟩ := bind_some e2
    cases e4
    subst hv
    exact .cons (h.ok e1 h1) (row_dec h e3 h2)
theorem decQ {c : Cod K α} {d : U → Option α} (h : DecP c d) : DecP (cSeq c) (dSeq d) := ⟨fun {H u v x} e q => by
  cases u <;> first | cases e | skip
  obtain ⟨a, vs, rfl, h2, h3⟩ := q
  exact ⟨a, vs, rfl, h2, row_dec h e h3⟩⟩
theorem decL {c : Cod K α} {d : U → Option α} (h : DecP c d) : DecP (cLst c) (dLst d) := ⟨fun {H u v x} e q => by
  cases u <;> first | cases e | skip
  obtain ⟨a, vs, rfl, h2, h3⟩ := q
  exact ⟨a, vs, rfl, h2, row_dec h e h3⟩⟩
theorem decO {c : Cod K α} {d : U → Option α} (nn : NN c) (h : DecP c d) : DecP (cOpt c) (dOpt d) := ⟨fun {H u v x} e q => by
  have go : ∀ u, (d u >>= fun x => some (some x)) = some x → rpU K H u v → (cOpt c).rp H v x := fun u e q => by
    obtain ⟨x1, e1, e2⟩ := bind_some e
    cases e2
    exact ⟨nn.nn (h.ok e1 q), h.ok e1 q⟩
  cases u with
  | non => cases e; exact q
  | _ => exact go _ e q⟩
end
section
variable {X : Cx} {C : Ct} {ρ α β : Type} {Γ : En X.K} {e a b tg : Expr} {r : Option ρ} {pos p p2 : Pos}
theorem ex_dec {c : Cod X.K α} {d : U → Option α} {J : α → En X.K → Option ρ → Prop} (D : DecP c d) (h : EX X C Γ e cU r fun u Γ' r' => ∃ k, r' = d u >>= k ∧ ∀ x, J x Γ' (k x)) : EX X C Γ e c r J := .mk fun z σ W H Q s hr k =>
  h z σ W H Q s hr fun u Γ' r' W' H' v j hr' s' w q => by
    obtain ⟨k2, e2, j2⟩ := j
    rw [e2] at hr'
    obtain ⟨x, ex, ht⟩ := bind_some hr'
    exact k x Γ' _ W' H' v (j2 x) ht s' w (D.ok ex q)
/-- a typed value read otherwise (by way of its shape at large) -/
theorem ex_cast {c : Cod X.K α} {c' : Cod X.K β} {d : U → Option β} {J : β → En X.K → Option ρ → Prop} (D : DecP c' d) (h : EX X C Γ e c r fun x Γ' r' => ∃ k, r' = d (c.u x) >>= k ∧ ∀ y, J y Γ' (k y)) : EX X C Γ e c' r J := ex_dec D (ex_u h)
theorem ei_U {J : List U → En X.K → Option ρ → Prop} (h : EX X C Γ e cU r fun u Γ' r' => ∃ k, r' = dSeq some u >>= k ∧ ∀ x, J x Γ' (k x)) : EI X C Γ tg e cU r J := ei_seq (ex_dec (decQ decU) h)
/-- list(range(n)) -/
theorem ef_listRng {J : List Int → En X.K → Option ρ → Prop} (hc : X.calm = true) (hm : X.mg "list" = none) (hm2 : X.mg "range" = none) (h : EX X C Γ a cInt r fun n Γ1 r1 => ∃ k, r1 = rng1 n >>= k ∧ ∀ xs, J xs Γ1 (k xs)) (hg : Gl X "list" := by rfl) (hg2 : Gl X "range" := by rfl)
    (na : starEach [a] X.env = (false, eval a X.env) :: starEach [] X.env := by rfl) (na2 : starEach [.Call (.Name "range" p2) [a] [] pos] X.env = (false, eval (.Call (.Name "range" p2) [a] [] pos) X.env) :: starEach [] X.env := by rfl) {pos2 : Pos} :
    EF X C Γ (.Call (.Name "list" p) [.Call (.Name "range" p2) [a] [] pos] [] pos2) (lstC cInt) r J := .mk fun z σ W H Q s hr k =>
  w_pe (pe_listRg hc hg hm (prg_1 hg2 hm2 pe_w na) na2) (h z σ W H _ s hr fun n Γ1 r1 W1 H1 v j1 hr1 s1 w1 q1 => by
    obtain ⟨k2, e2, j2⟩ := j1
    rw [e2] at hr1
    obtain ⟨t, et, ht⟩ := bind_some hr1
    unfold rng1 at et
    split at et
    · rename_i hcn
      cases et
      obtain ⟨c1, c2⟩ := id hcn
      refine ⟨n, q1, ⟨by omega, by omega, by omega, by omega, by omega⟩, fun q hq => ?_⟩
      obtain ⟨s2, wp, cp, ap, la⟩ := s1.fresh (o := .lst (rgV 0 n)) hq
      have e : rgV 0 n = (rangeI 0 n).map V.int := by simp [rgV, rangeI, List.map_map, Function.comp_def]
      exact k _ Γ1 _ W1 _ q _ (j2 _) ht s2 w1 wp cp upd_same ⟨rgV 0 n, rfl, by rw [e]; exact Row.of_ints _⟩ ap la
    · cases et)
end
end Ty

set_option maxHeartbeats 4000000
namespace Ty
open PySem PySem.Spec PyProof.Rows L2
/-! ### calls whose value always goes -/
section
variable {X : Cx} {C : Ct} {ρ α β γ : Type} {Γ : En X.K} {e a b : Expr} {es : List Expr} {r : Option ρ} {pos p p2 p3 : Pos}
theorem CallB.useT {f : Value} {t : TC X.K α} {c : Cod X.K β} {g : α → β} {J : β → En X.K → Option ρ → Prop} {rr : List V → Hp → VK → Prop} (hf : ∀ W H vs x z (Q : VK), Same W H → t.rp W vs x → some (g x) = some z → (∀ w W' H', Grow W H W' H' → c.rp W' w z → Q w H') → rr vs H Q)
    (h : EA X C Γ es t r fun x Γ1 r1 => J (g x) Γ1 r1) {z : ρ} {σ : L2.St} {W H : Hp} {Q : VK} (s : Sat C Γ σ W H) (hr : r = some z)
    (k : ∀ x Γ' r' W' H' v, J x Γ' r' → r' = some z → Sat C Γ' σ W' H' → Same W W' → c.rp W' v x → Q v H') : tCB rr (wpa X es) σ H Q :=
  h z σ W H _ s hr fun x Γ1 r1 W1 H1 vs j1 hr1 s1 w1 q1 =>
    hf W1 H1 vs x _ _ s1.sub q1 rfl fun w W2 H2 G q2 => k (g x) Γ1 _ W2 H2 w j1 hr1 (s1.grow G) (w1.trans G.w) q2
theorem CallN.useT {f : Value} {t : TC X.K α} {c : Cel X.K β} {g : α → β} {J : β → En X.K → Option ρ → Prop} {rr : List V → Hp → VK → Prop} (hf : ∀ W H vs x z (Q : VK), Same W H → t.rp W vs x → some (g x) = some z → (∀ l o, H l = none → c.ct W o z → Q (.ref l) (upd H l o)) → rr vs H Q)
    (h : EA X C Γ es t r fun x Γ1 r1 => J (g x) Γ1 r1) {z : ρ} {σ : L2.St} {W H : Hp} {Q : VK} (s : Sat C Γ σ W H) (hr : r = some z)
    (k : ∀ x Γ' r' W' H' p o, J x Γ' r' → r' = some z → Sat C Γ' σ W' H' → Same W W' → W' p = none → C.H p = none → H' p = some o → c.ct W' o x → Apart Γ' σ p → C.a ≠ some p → Q (.ref p) H') : tCB rr (wpa X es) σ H Q :=
  h z σ W H _ s hr fun x Γ1 r1 W1 H1 vs j1 hr1 s1 w1 q1 => by
    refine hf W1 H1 vs x _ _ s1.sub q1 rfl fun l o hl ct => ?_
    obtain ⟨s2, wl, cl, ap, la⟩ := s1.fresh (o := o) hl
    exact k (g x) Γ1 _ W1 _ l o j1 hr1 s2 w1 wl cl upd_same ct ap la
variable {x : Str} {id T : String}
theorem ex_callBT {t : TC X.K α} {c : Cod X.K β} {g : α → β} {J : β → En X.K → Option ρ → Prop} (o : CallB X (.builtin id) t c fun x => some (g x)) (hm : X.mg x = none) (hv : bootBuiltins x = some (.builtin id))
    (h : EA X C Γ (e :: es) t r fun x Γ1 r1 => J (g x) Γ1 r1) (hg : Gl X x := by rfl) (hn : x ≠ "__name__" := by decide) (hdb : (x == ("__debug__" : Str)) = false := by decide)
    (he : starEach (e :: es) X.env = (false, eval e X.env) :: starEach es X.env := by rfl) (hpl : (backTo pos (starEach es X.env)).any (·.1) = false := by rfl) : EX X C Γ (.Call (.Name x p) (e :: es) [] pos) c r J := .mk fun z σ W H Q s hr k => by
  obtain ⟨rr, hc, hf⟩ := o
  exact w_pe (pe_callB hc hg hm hv pa_w hn hdb he hpl) (CallB.useT (f := .builtin id) hf h s hr k)
theorem ex_callTT {t : TC X.K α} {c : Cod X.K β} {g : α → β} {J : β → En X.K → Option ρ → Prop} (o : CallB X (.type T) t c fun x => some (g x)) (hm : X.mg x = none) (hv : bootBuiltins x = some (.type T))
    (h : EA X C Γ (e :: es) t r fun x Γ1 r1 => J (g x) Γ1 r1) (hg : Gl X x := by rfl) (hn : x ≠ "__name__" := by decide) (hdb : (x == ("__debug__" : Str)) = false := by decide)
    (he : starEach (e :: es) X.env = (false, eval e X.env) :: starEach es X.env := by rfl) (hpl : (backTo pos (starEach es X.env)).any (·.1) = false := by rfl) : EX X C Γ (.Call (.Name x p) (e :: es) [] pos) c r J := .mk fun z σ W H Q s hr k => by
  obtain ⟨rr, hc, hf⟩ := o
  exact w_pe (pe_callTy hc hg hm hv pa_w hn hdb he hpl) (CallB.useT (f := .type T) hf h s hr k)
theorem ex_callFT {t : TC X.K α} {c : Cod X.K β} {g : α → β} {J : β → En X.K → Option ρ → Prop} (o : CallB X (.builtin id) t c fun x => some (g x)) (hm : X.mg x = some (.builtin id))
    (h : EA X C Γ (e :: es) t r fun x Γ1 r1 => J (g x) Γ1 r1) (hg : Gl X x := by rfl) (hdb : (x == ("__debug__" : Str)) = false := by decide)
    (he : starEach (e :: es) X.env = (false, eval e X.env) :: starEach es X.env := by rfl) (hpl : (backTo pos (starEach es X.env)).any (·.1) = false := by rfl) : EX X C Γ (.Call (.Name x p) (e :: es) [] pos) c r J := .mk fun z σ W H Q s hr k => by
  obtain ⟨rr, hc, hf⟩ := o
  exact w_pe (pe_callBfun hc hg hm pa_w hdb he hpl) (CallB.useT (f := .builtin id) hf h s hr k)
theorem ef_callTT {t : TC X.K α} {c : Cel X.K β} {g : α → β} {J : β → En X.K → Option ρ → Prop} (o : CallN X (.type T) t c fun x => some (g x)) (hm : X.mg x = none) (hv : bootBuiltins x = some (.type T))
    (h : EA X C Γ (e :: es) t r fun x Γ1 r1 => J (g x) Γ1 r1) (hg : Gl X x := by rfl) (hn : x ≠ "__name__" := by decide) (hdb : (x == ("__debug__" : Str)) = false := by decide)
    (he : starEach (e :: es) X.env = (false, eval e X.env) :: starEach es X.env := by rfl) (hpl : (backTo pos (starEach es X.env)).any (·.1) = false := by rfl) : EF X C Γ (.Call (.Name x p) (e :: es) [] pos) c r J := .mk fun z σ W H Q s hr k => by
  obtain ⟨rr, hc, hf⟩ := o
  exact w_pe (pe_callTy hc hg hm hv pa_w hn hdb he hpl) (CallN.useT (f := .type T) hf h s hr k)
end

def popAtR (ys : List α) (i : Int) : Option (α × List α) := if ys.length ≤ 16777216 then popR ys i else none
/-! ### the shape at large, without a heap -/
def uInt (x : Int) : U := .int x
def uBool (x : Bool) : U := .bl x
def uStr (x : Str) : U := .str x
def uNon (_ : Unit) : U := .non
def uR0 (_ : Unit) : List U := []
def uR1 (f : α → U) (x : α) : List U := [f x]
def uRC (f : α → U) (g : β → List U) (x : α × β) : List U := f x.1 :: g x.2
def uTup (f : α → List U) (x : α) : U := .tup (f x)
def uSeq (f : α → U) (x : List α) : U := .tup (x.map f)
def uLst (f : α → U) (x : List α) : U := .lst (x.map f)
def uOpt (f : α → U) (x : Option α) : U := match x with | none => .non | some y => f y
/-! ### a tuple of things of one kind, read as a row -/
structure TSq {K : Frag} {α β : Type} (t : TC K α) (c : Cod K β) (g : α → List β) : Prop where
  ok : ∀ {H : Hp} {vs : List V} {x : α}, t.rp H vs x → Row c H vs (g x)
theorem tsq1 {K : Frag} {α : Type} {c : Cod K α} : TSq (tc1 c) c fun x => [x] := ⟨fun {H vs x} ⟨v, h, q⟩ => by subst h; exact .cons q .nil⟩
theorem tsqC {K : Frag} {α β : Type} {c : Cod K α} {t : TC K β} {g : β → List α} (h : TSq t c g) : TSq (tcC c t) c fun x => x.1 :: g x.2 := ⟨fun {H vs x} ⟨v, r, e, q, q2⟩ => by subst e; exact .cons q (h.ok q2)⟩
theorem ex_tsq {X : Cx} {C : Ct} {ρ α β : Type} {Γ : En X.K} {e : Expr} {r : Option ρ} {t : TC X.K α} {c : Cod X.K β} {g : α → List β} {J : List β → En X.K → Option ρ → Prop} (q : TSq t c g) (h : EX X C Γ e (cTup t) r fun x Γ' r' => J (g x) Γ' r') : EX X C Γ e (cSeq c) r J :=
  ex_as (c := cTup t) (c' := cSeq c) g (fun {H v x} h => by obtain ⟨a, vs, h1, h2, h3⟩ := h; exact ⟨a, vs, h1, h2, q.ok h3⟩) h
/-- a constant of the text: a tuple of strings -/
theorem cStrs {K : Frag} {W : Hp} {ad : Addr} {xs : List Str} (h : SqT K W ad (xs.map V.str)) : (cSeq cStr : Cod K (List Str)).rp W (.ref ad) xs := ⟨ad, _, rfl, h, by
  clear h
  induction xs with
  | nil => exact .nil
  | cons x xs ih => exact .cons rfl ih⟩

/-! ### facts of the head -/
def bltB (K : Frag) (x : Str) (id : String) : Bool := He.eqO (PySem.W.nsIn K mainGlobals x) (some (some (.builtin id)))
theorem bltB_ok {K : Frag} {h : Heap} {mg : Str → Option Value} (X : K.In h) (G : h.Ns mainGlobals mg) {x : Str} {id : String} (c : bltB K x id = true) : mg x = some (.builtin id) := PySem.W.mg_of X G (He.eqO_ok c)
def tupO (K : Frag) (x : Str) : Bool := match K.lookup (He.ga K x) with
  | some ⟨.type c, none, _, _⟩ => decide (c = "tuple")
  | _ => false
theorem tupO_ok {K : Frag} {h : Heap} {mg : Str → Option Value} (X : K.In h) (G : h.Ns mainGlobals mg) {x : Str} {vs : List V} (c : (He.Fa.glo x).ok K = true) (q : ∀ W, SqT K W (He.ga K x) vs) (t : tupO K x = true) :
    ∃ (ad : Addr) (o : Obj), mg x = some (.ref ad) ∧ (∀ W, SqT K W ad vs) ∧ (K.lookup ad = some o ∧ o.cls = .type "tuple" ∧ o.dict = none) := by
  unfold tupO at t
  cases e : K.lookup (He.ga K x) with
  | none => rw [e] at t; cases t
  | some o =>
    obtain ⟨oc, od, dt, osl⟩ := o
    rw [e] at t
    cases oc with
    | type c' =>
      cases od with
      | none =>
        have h1 : c' = "tuple" := of_decide_eq_true t
        subst h1
        exact ⟨_, _, He.glo_ok X G c, q, e, rfl, rfl⟩
      | some d => cases t
    | _ => cases od <;> cases t

theorem gk_stuck {X : Cx} {C : Ct} {ρ β : Type} {w : TS} {Γ : En X.K} {T : Go X.K ρ β} : GK X C w Γ none T := GK.mk fun z σ W H D s hr => nomatch hr
theorem bt_len : bootBuiltins "len" = some (.builtin "len") := by decide +kernel
theorem bt_abs : bootBuiltins "abs" = some (.builtin "abs") := by decide +kernel
theorem bt_max : bootBuiltins "max" = some (.builtin "max") := by decide +kernel
theorem bt_min : bootBuiltins "min" = some (.builtin "min") := by decide +kernel
theorem bt_sum : bootBuiltins "sum" = some (.builtin "sum") := by decide +kernel
theorem bt_all : bootBuiltins "all" = some (.builtin "all") := by decide +kernel
theorem bt_any : bootBuiltins "any" = some (.builtin "any") := by decide +kernel
theorem bt_isinstance : bootBuiltins "isinstance" = some (.builtin "isinstance") := by decide +kernel
theorem bt_int : bootBuiltins "int" = some (.type "int") := by decide +kernel
theorem bt_bool : bootBuiltins "bool" = some (.type "bool") := by decide +kernel
theorem bt_str : bootBuiltins "str" = some (.type "str") := by decide +kernel
theorem bt_list : bootBuiltins "list" = some (.type "list") := by decide +kernel
theorem bt_tuple : bootBuiltins "tuple" = some (.type "tuple") := by decide +kernel
theorem bt_range : bootBuiltins "range" = some (.type "range") := by decide +kernel
end Ty

set_option maxHeartbeats 4000000
/-! what the laws' own draws do, in plain Lean -/
namespace Ty
open PySem L2
def m_law_tape (a_script : (List Int)) : Option Tape :=
 forS a_script (7 : Int) (fun x2 (s1 : Int) => mulR s1 (31 : Int) >>= fun v3 =>
 fmodR (v3 + (absI x2)) (2147483647 : Int) >>= fun v4 =>
 some v4) >>= fun s1 =>
 some (⟨a_script, (0 : Int), (0 : Int), s1⟩)
def m_law_draw (tp : Tape) (a_many : Int) : Option (Int × Tape) :=
 (cond (decide ((tp.fld 2) = (0 : Int))) (lt (tp.fld 1) fun place_2 =>
 (cond (decide (place_2 < (tp.cells.length : Int))) (atI tp.cells place_2 >>= fun v4 =>
 lt (absI v4) fun number_5 =>
 some (number_5, tp)) (mulR (tp.fld 3) (48271 : Int) >>= fun v6 =>
 fmodR ((v6 + place_2) + (1 : Int)) (2147483647 : Int) >>= fun v7 =>
 lt ((tp.put 3 v7).fld 3) fun number_9 =>
 some (number_9, (tp.put 3 v7)))) >>= fun s3 =>
 powR (10 : Int) (18 : Int) >>= fun v11 =>
 cond (decide (s3.1 < v11)) (mulR s3.1 (48271 : Int) >>= fun v12 =>
 mulR place_2 (69621 : Int) >>= fun v13 =>
 fmodR ((v12 + v13) + (5 : Int)) (2147483647 : Int) >>= fun v14 =>
 mulR v14 (69621 : Int) >>= fun v15 =>
 fmodR v15 (2147483629 : Int) >>= fun v16 =>
 fmodR v16 (maxI a_many (1 : Int)) >>= fun v17 =>
 some (.rt (v17, (s3.2.put 1 (place_2 + (1 : Int)))))) (some (.nx ((s3.2.put 1 (place_2 + (1 : Int))).put 2 s3.1)))) (some (.nx tp)) : Option (Fl Tape (Int × Tape))) >>= (fun o => match o with
 | .nx s1 => lt (s1.fld 2) fun number_19 =>
 fdivR number_19 (maxI a_many (2 : Int)) >>= fun v20 =>
 fmodR number_19 (maxI a_many (1 : Int)) >>= fun v22 =>
 some (v22, (s1.put 2 v20))
 | .rt x => some x
 | .bk _ => none
 | .ct _ => none)
def m_law_pick {Aa : Type} (tp : Tape) (a_menu : (List Aa)) : Option (Aa × Tape) :=
 m_law_draw tp (a_menu.length : Int) >>= fun v1 =>
 atI a_menu v1.1 >>= fun v2 =>
 some (v2, v1.2)
def m_law_turns (tp : Tape) (a_many : Int) : Option ((List Int) × Tape) :=
 rng1 a_many >>= fun v1 =>
 rng1 a_many >>= fun v2 =>
 forS v2 (v1, ([] : (List Int)), tp) (fun x4 (s3 : ((List Int) × (List Int) × Tape)) => m_law_draw s3.2.2 (s3.1.length : Int) >>= fun v5 =>
 popAtR s3.1 v5.1 >>= fun v6 =>
 pushR s3.2.1 v6.1 >>= fun v7 =>
 some (v6.2, v7.2, v5.2)) >>= fun s3 =>
 m_law_draw s3.2.2 (3 : Int) >>= fun v8 =>
 atI ([a_many, a_many, (1 : Int)]) v8.1 >>= fun v9 =>
 some ((cutR s3.2.1 none (some v9)), v8.2)
def m_law_put (a_told : (List U)) (a_place : Int) (a_thing : U) : Option (List U) :=
 catR (cutR a_told none (some a_place)) ([a_thing]) >>= fun v1 =>
 catR v1 (cutR a_told (some (a_place + (1 : Int))) none) >>= fun v2 =>
 some v2
def m_law_same : Nat → U → U → Option Bool
  | 0, _, _ => none
  | fuel + 1, a_told, a_wanted =>
   isU "tuple" a_wanted >>= fun v1 =>
 cond v1 (isU "tuple" a_told >>= fun v2 =>
 (cond (!v2) (some true) (U.len a_told >>= fun v3 =>
 U.len a_wanted >>= fun v4 =>
 some (!decide (v3 = v4)))) >>= fun c5 =>
 cond c5 (some false) (U.len a_wanted >>= fun v6 =>
 rng1 v6 >>= fun v7 =>
 (forF v7 () (fun x9 (s8 : Unit) => U.get a_told x9 >>= fun v10 =>
 U.get a_wanted x9 >>= fun v11 =>
 m_law_same fuel v10 v11 >>= fun v12 =>
 cond (!v12) (some (.rt false)) (some (.nx ()))) : Option (Fl Unit Bool)) >>= (fun o => match o with
 | .nx s8 => some true
 | .rt x => some x
 | .bk _ => none
 | .ct _ => none))) (U.isNon a_wanted >>= fun v13 =>
 (cond v13 (some true) (U.isNon a_told >>= fun v14 =>
 some v14)) >>= fun c15 =>
 cond c15 (U.isNon a_wanted >>= fun v16 =>
 (cond v16 (U.isNon a_told >>= fun v17 =>
 some v17) (some false)) >>= fun c18 =>
 some c18) (isU "str" a_wanted >>= fun v19 =>
 cond v19 (isU "str" a_told >>= fun v20 =>
 (cond v20 (U.eq a_told a_wanted >>= fun v21 =>
 some v21) (some false)) >>= fun c22 =>
 some c22) (isU "bool" a_told >>= fun v23 =>
 isU "bool" a_wanted >>= fun v24 =>
 (cond (!decide (v23 = v24)) (some true) (isU "int" a_told >>= fun v25 =>
 some (!v25))) >>= fun c26 =>
 cond c26 (some false) (U.eq a_told a_wanted >>= fun v27 =>
 some v27))))
def m_law_low (a_n : Int) (a_d : Int) : Option (Int × Int) :=
 lt (absI a_n) fun a_1 =>
 lt (absI a_d) fun b_2 =>
 (whl (b_2.toNat + 1) (a_1, b_2) (fun (s3 : (Int × Int)) => cond (decide ((0 : Int) < s3.2)) (fmodR s3.1 s3.2 >>= fun v4 =>
 some (.nx (s3.2, v4))) (some (.bk s3))) : Option (Fl (Int × Int) (Int × Int))) >>= (fun o => match o with
 | .nx s3 => (cond (decide (a_d < (0 : Int))) (lt ((0 : Int) - s3.1) fun a_6 =>
 some a_6) (some s3.1)) >>= fun s5 =>
 fdivR a_n s5 >>= fun v7 =>
 fdivR a_d s5 >>= fun v8 =>
 some (v7, v8)
 | .rt x => some x
 | .bk _ => none
 | .ct _ => none)
/-! ### goes, with such a value -/
def Ok {α : Type} (m : Option α) (P : α → Prop) : Prop := ∃ v, m = some v ∧ P v
section
variable {α β γ : Type}
theorem Ok.bind {m : Option α} {k : α → Option β} {P : α → Prop} {Q : β → Prop} (h : Ok m P) (hk : ∀ v, P v → Ok (k v) Q) : Ok (m >>= k) Q := by
  obtain ⟨v, rfl, p⟩ := h; exact hk v p
theorem Ok.ret {v : α} {P : α → Prop} (p : P v) : Ok (some v) P := ⟨v, rfl, p⟩
theorem Ok.cond {b : Bool} {x y : Option α} {P : α → Prop} (h1 : b = true → Ok x P) (h2 : b = false → Ok y P) : Ok (cond b x y) P := by
  cases b; exact h2 rfl; exact h1 rfl
theorem Ok.lt {v : α} {k : α → Option β} {P : β → Prop} (h : Ok (k v) P) : Ok (lt v k) P := h
theorem Ok.imp {m : Option α} {P Q : α → Prop} (h : Ok m P) (i : ∀ v, P v → Q v) : Ok m Q := by
  obtain ⟨v, e, p⟩ := h; exact ⟨v, e, i v p⟩
theorem ok_forS {S : Type} (I : Nat → S → Prop) {f : α → S → Option S} : ∀ (xs : List α) (n : Nat) (s : S), I n s → (∀ i x s, x ∈ xs → n ≤ i → i < n + xs.length → I i s → Ok (f x s) (I (i + 1))) → Ok (forS xs s f) (I (n + xs.length))
  | [], n, s, h, _ => ⟨s, rfl, h⟩
  | x :: xs, n, s, h, hf => by
    show Ok (f x s >>= fun s' => forS xs s' f) _
    refine (hf n x s (List.mem_cons_self ..) (Nat.le_refl _) (by simp) h).bind fun s' h' => ?_
    have := ok_forS I xs (n + 1) s' h' fun i y t hy h1 h2 => hf i y t (List.mem_cons_of_mem _ hy) (by omega) (by simp only [List.length_cons]; omega)
    rw [List.length_cons, show n + (xs.length + 1) = n + 1 + xs.length by omega]
    exact this
theorem ok_mapR {f : α → Option β} {P : β → Prop} : ∀ (xs : List α), (∀ x ∈ xs, Ok (f x) P) → Ok (mapR f xs) (fun ys => ys.length = xs.length ∧ ∀ y ∈ ys, P y)
  | [], _ => ⟨[], rfl, rfl, fun _ h => nomatch h⟩
  | x :: xs, h => by
    show Ok (f x >>= fun y => mapR f xs >>= fun ys => some (y :: ys)) _
    refine (h x (List.mem_cons_self ..)).bind fun y py => (ok_mapR xs fun z hz => h z (List.mem_cons_of_mem _ hz)).bind fun ys ⟨l, q⟩ => Ok.ret ⟨by simp [l], ?_⟩
    intro z hz
    rcases List.mem_cons.mp hz with rfl | hz
    · exact py
    · exact q z hz
theorem ok_mapS {S : Type} (I : Nat → S → Prop) {P : β → Prop} {f : α → S → Option (β × S)} : ∀ (xs : List α) (n : Nat) (s : S), I n s → (∀ i x s, x ∈ xs → n ≤ i → i < n + xs.length → I i s → Ok (f x s) (fun r => P r.1 ∧ I (i + 1) r.2)) →
    Ok (mapS f xs s) (fun r => r.1.length = xs.length ∧ (∀ y ∈ r.1, P y) ∧ I (n + xs.length) r.2)
  | [], n, s, h, _ => ⟨([], s), rfl, rfl, (fun _ h => nomatch h), h⟩
  | x :: xs, n, s, h, hf => by
    show Ok (f x s >>= fun y => mapS f xs y.2 >>= fun ys => some (y.1 :: ys.1, ys.2)) _
    refine (hf n x s (List.mem_cons_self ..) (Nat.le_refl _) (by simp) h).bind fun y ⟨py, h'⟩ => ?_
    refine (ok_mapS I xs (n + 1) y.2 h' fun i z t hz h1 h2 => hf i z t (List.mem_cons_of_mem _ hz) (by omega) (by simp only [List.length_cons]; omega)).bind fun ys ⟨l, q, r⟩ => Ok.ret ⟨by simp [l], ?_, ?_⟩
    · intro z hz
      rcases List.mem_cons.mp hz with rfl | hz
      · exact py
      · exact q z hz
    · rw [List.length_cons, show n + (xs.length + 1) = n + 1 + xs.length by omega]
      exact r
end
/-! ### numbers -/
theorem log2_small {x : Int} {k : Nat} (h : x.natAbs < 2 ^ (k + 1)) : x.natAbs.log2 ≤ k := by
  by_cases h0 : x.natAbs = 0
  · rw [h0]; simp
  · have := (Nat.log2_lt h0 (k := k + 1)).mpr h
    omega
theorem mulR_b {x y : Int} (hx : x.natAbs.log2 < 400000) (hy : y.natAbs.log2 < 400000) : mulR x y = some (x * y) := if_pos (by omega)
theorem mulR_s {x y : Int} (hx : x.natAbs < 2 ^ 250) (hy : y.natAbs < 2 ^ 250) : mulR x y = some (x * y) := mulR_b (by have := log2_small (k := 249) hx; omega) (by have := log2_small (k := 249) hy; omega)
theorem fdivR_s {x y : Int} (h0 : y ≠ 0) (hy : y.natAbs < 2 ^ 250) : fdivR x y = some (x.fdiv y) := if_pos ⟨h0, by have := log2_small (k := 249) hy; omega⟩
theorem fmodR_s {x y : Int} (h0 : y ≠ 0) : fmodR x y = some (x.fmod y) := if_pos h0
theorem ok_mul {x y : Int} {P : Int → Prop} (hx : x.natAbs < 2 ^ 250) (hy : y.natAbs < 2 ^ 250) (p : P (x * y)) : Ok (mulR x y) P := ⟨_, mulR_s hx hy, p⟩
theorem ok_div {x y : Int} {P : Int → Prop} (h0 : y ≠ 0) (hy : y.natAbs < 2 ^ 250) (p : P (x.fdiv y)) : Ok (fdivR x y) P := ⟨_, fdivR_s h0 hy, p⟩
theorem ok_mod {x y : Int} {P : Int → Prop} (h0 : 0 < y) (p : ∀ m, 0 ≤ m → m < y → m = x.fmod y → P m) : Ok (fmodR x y) P :=
  ⟨_, fmodR_s (by omega), p _ (Int.fmod_nonneg_of_pos x h0) (Int.fmod_lt_of_pos x h0) rfl⟩
theorem ok_atI {xs : List α} {i : Int} {P : α → Prop} (h0 : 0 ≤ i) (h1 : i < xs.length) (p : ∀ x, xs[i.toNat]? = some x → P x) : Ok (atI xs i) P := by
  obtain ⟨k, rfl⟩ := Int.eq_ofNat_of_zero_le h0
  have hk : k < xs.length := by omega
  refine ⟨xs[k], ?_, p _ (by simp [hk])⟩
  unfold atI ixN
  rw [if_pos h0, if_pos h1]
  simp [hk]
/-! ### draws -/
def Good (n : Nat) (t : Tape) : Prop := 0 ≤ t.place ∧ t.place ≤ n ∧ 0 ≤ t.rest ∧ 0 ≤ t.mixed ∧ t.mixed < 2147483647
theorem Good.mono {n m : Nat} {t : Tape} (g : Good n t) (h : n ≤ m) : Good m t := ⟨g.1, by have := g.2.1; omega, g.2.2⟩
theorem ok_draw {n : Nat} {t : Tape} {many : Int} (g : Good n t) (hn : n < 1000000000) (hm : many < 2 ^ 200) : Ok (m_law_draw t many) fun x => 0 ≤ x.1 ∧ x.1 < max many 1 ∧ Good (n + 1) x.2 := by
  obtain ⟨g1, g2, g3, g4, g5⟩ := g
  unfold m_law_draw
  have mx1 : maxI many 1 = max many 1 := by unfold maxI; split <;> omega
  have mx2 : maxI many 2 = max many 2 := by unfold maxI; split <;> omega
  rw [mx1, mx2]
  have p18 : powR 10 18 = some 1000000000000000000 := by decide
  refine Ok.bind (P := fun o => match o with
    | .nx t => 0 ≤ t.place ∧ t.place ≤ n + 1 ∧ 0 ≤ t.rest ∧ 0 ≤ t.mixed ∧ t.mixed < 2147483647
    | .rt x => 0 ≤ x.1 ∧ x.1 < max many 1 ∧ Good (n + 1) x.2
    | .bk _ => False
    | .ct _ => False) (Ok.cond (fun _ => ?_) (fun _ => ?_)) ?_
  · refine Ok.lt (Ok.bind (P := fun x => 0 ≤ x.1 ∧ x.2.place = t.place ∧ 0 ≤ x.2.rest ∧ 0 ≤ x.2.mixed ∧ x.2.mixed < 2147483647) (Ok.cond (fun h => ?_) (fun _ => ?_)) ?_)
    · have h := of_decide_eq_true h
      refine Ok.bind (ok_atI (P := fun _ => True) g1 h fun _ _ => trivial) fun v _ => Ok.lt (Ok.ret ⟨?_, rfl, g3, g4, g5⟩)
      unfold absI; split <;> omega
    · refine Ok.bind (ok_mul (P := fun _ => True) (x := t.mixed) (by omega) (by decide) trivial) fun v _ => ?_
      refine Ok.bind (ok_mod (P := fun m => 0 ≤ m ∧ m < 2147483647) (by decide) fun m h1 h2 _ => ⟨h1, h2⟩) fun m hm' => Ok.lt (Ok.ret ⟨hm'.1, rfl, g3, hm'.1, hm'.2⟩)
    · rintro ⟨x, t'⟩ ⟨h1, h2, h3, h4, h5⟩
      rw [p18]
      show Ok (cond (decide (x < 1000000000000000000)) _ _) _
      refine Ok.cond (fun h => ?_) (fun _ => ?_)
      · have h := of_decide_eq_true h
        refine Ok.bind (ok_mul (P := fun _ => True) (by omega) (by decide) trivial) fun v _ => ?_
        refine Ok.bind (ok_mul (P := fun _ => True) (x := t.place) (by omega) (by decide) trivial) fun v _ => ?_
        refine Ok.bind (ok_mod (P := fun m => 0 ≤ m ∧ m < 2147483647) (by decide) fun m h1 h2 _ => ⟨h1, h2⟩) fun m hm' => ?_
        refine Ok.bind (ok_mul (P := fun _ => True) (by omega) (by decide) trivial) fun v _ => ?_
        refine Ok.bind (ok_mod (P := fun _ => True) (by decide) fun m h1 h2 _ => trivial) fun m _ => ?_
        refine Ok.bind (ok_mod (P := fun m => 0 ≤ m ∧ m < max many 1) (by omega) fun m h1 h2 _ => ⟨h1, h2⟩) fun m hm' => Ok.ret ⟨hm'.1, hm'.2, ?_, ?_, h3, h4, h5⟩
        · show 0 ≤ t.place + 1; omega
        · show t.place + 1 ≤ ((n + 1 : Nat) : Int); omega
      · refine Ok.ret ⟨?_, ?_, h1, h4, h5⟩
        · show 0 ≤ t.place + 1; omega
        · show t.place + 1 ≤ (n : Int) + 1; omega
  · exact Ok.ret ⟨g1, by omega, g3, g4, g5⟩
  · intro o
    cases o with
    | nx s =>
      rintro ⟨h1, h2, h3, h4, h5⟩
      refine Ok.lt (Ok.bind (ok_div (P := fun q => 0 ≤ q) (by omega) (by omega) (Int.fdiv_nonneg h3 (by omega))) fun q hq => ?_)
      refine Ok.bind (ok_mod (P := fun m => 0 ≤ m ∧ m < max many 1) (by omega) fun m h1 h2 _ => ⟨h1, h2⟩) fun m hm' => Ok.ret ⟨hm'.1, hm'.2, h1, ?_, hq, h4, h5⟩
      show s.place ≤ ((n + 1 : Nat) : Int); omega
    | rt x => intro h; exact Ok.ret h
    | bk s => intro h; exact h.elim
    | ct s => intro h; exact h.elim
theorem ok_pick {α : Type} {n : Nat} {t : Tape} {menu : List α} (g : Good n t) (hn : n < 1000000000) (h0 : 0 < menu.length) (h1 : menu.length < 2 ^ 100) : Ok (m_law_pick t menu) fun x => x.1 ∈ menu ∧ Good (n + 1) x.2 := by
  unfold m_law_pick
  refine (ok_draw g hn (by omega)).bind fun v ⟨a, b, c⟩ => ?_
  refine (ok_atI (P := fun x => x ∈ menu) a (by omega) fun x h => List.mem_of_getElem? h).bind fun x hx => Ok.ret ⟨hx, c⟩
theorem ok_tape (ns : List Int) : Ok (m_law_tape ns) (Good 0) := by
  unfold m_law_tape
  refine (ok_forS (fun _ s => 0 ≤ s ∧ s < 2147483647) ns 0 7 (by decide) fun i x s _ _ _ hs => ?_).bind fun s hs => Ok.ret ⟨Int.le_refl 0, Int.le_refl 0, Int.le_refl 0, hs.1, hs.2⟩
  refine Ok.bind (ok_mul (P := fun _ => True) (by omega) (by decide) trivial) fun v _ => ?_
  exact Ok.bind (ok_mod (P := fun m => 0 ≤ m ∧ m < 2147483647) (by decide) fun m h1 h2 _ => ⟨h1, h2⟩) fun m hm' => Ok.ret hm'
theorem ok_rng1 {k : Int} {P : List Int → Prop} (h : CRng k) (p : P (rangeI 0 k)) : Ok (rng1 k) P := ⟨_, if_pos h, p⟩
theorem mem_rangeI {lo hi x : Int} (h : x ∈ rangeI lo hi) : lo ≤ x ∧ x < hi := by
  unfold rangeI at h
  simp only [List.mem_map, List.mem_range] at h
  obtain ⟨j, hj, rfl⟩ := h
  omega
theorem len_rangeI {lo hi : Int} : (rangeI lo hi).length = (hi - lo).toNat := by simp [rangeI]
theorem ok_popAt {α : Type} {ys : List α} {i : Int} {P : α × List α → Prop} (h : ys.length ≤ 16777216) (h0 : 0 ≤ i) (h1 : i < ys.length) (p : ∀ x, x ∈ ys → P (x, ys.eraseIdx i.toNat)) : Ok (popAtR ys i) P := by
  unfold popAtR popR ixN
  rw [if_pos h, if_pos h0, if_pos h1]
  have hk : i.toNat < ys.length := by omega
  refine ⟨(ys[i.toNat], ys.eraseIdx i.toNat), ?_, p _ (List.getElem_mem hk)⟩
  simp [hk]
theorem ok_push {α : Type} {ys : List α} {x : α} {P : Unit × List α → Prop} (h : ys.length < 16000000) (p : P ((), ys ++ [x])) : Ok (pushR ys x) P := ⟨_, if_pos h, p⟩
theorem ok_cat {α : Type} {x y : List α} {P : List α → Prop} (h : x.length + y.length ≤ 16000000) (p : P (x ++ y)) : Ok (catR x y) P := ⟨_, if_pos h, p⟩
theorem mem_cutR {α : Type} {xs : List α} {lo hi : Option Int} {x : α} (h : x ∈ cutR xs lo hi) : x ∈ xs := List.mem_of_mem_drop (List.mem_of_mem_take h)
theorem ok_turns {n : Nat} {t : Tape} {many : Int} (g : Good n t) (hn : n < 900000000) (h0 : 0 ≤ many) (h1 : many ≤ 1000000) : Ok (m_law_turns t many) fun x => (∀ k ∈ x.1, 0 ≤ k ∧ k < many) ∧ Good (n + many.toNat + 1) x.2 := by
  unfold m_law_turns
  have hc : CRng many := by unfold CRng; omega
  refine (ok_rng1 (P := fun r => r = rangeI 0 many) hc rfl).bind fun v1 e1 => (ok_rng1 (P := fun r => r = rangeI 0 many) hc rfl).bind fun v2 e2 => ?_
  subst e1 e2
  refine (ok_forS (fun i (s : List Int × List Int × Tape) => s.1.length + i = many.toNat ∧ (∀ k ∈ s.1, 0 ≤ k ∧ k < many) ∧ (∀ k ∈ s.2.1, 0 ≤ k ∧ k < many) ∧ s.2.1.length = i ∧ Good (n + i) s.2.2) (rangeI 0 many) 0 (rangeI 0 many, [], t) ⟨by show (rangeI 0 many).length + 0 = _; rw [len_rangeI]; simp, fun k hk => by have := mem_rangeI hk; exact this, (fun k hk => nomatch hk), rfl, g⟩ ?_).bind ?_
  · rintro i x ⟨rest, turns, t'⟩ _ _ hi ⟨a, b, c, d, e⟩
    rw [len_rangeI] at hi
    have a' : rest.length + i = many.toNat := a
    have hl : 0 < rest.length := by omega
    refine (ok_draw e (by omega) (by show (rest.length : Int) < _; omega)).bind fun v ⟨p1, p2, p3⟩ => ?_
    have p2 : v.1 < max (rest.length : Int) 1 := p2
    refine (ok_popAt (P := fun y => (0 ≤ y.1 ∧ y.1 < many) ∧ y.2.length + 1 = rest.length ∧ ∀ k ∈ y.2, 0 ≤ k ∧ k < many) (by show rest.length ≤ _; omega) p1 (by show v.1 < (rest.length : Int); omega) fun y hy => ⟨b y hy, ?_, fun k hk => b k (List.mem_of_mem_eraseIdx hk)⟩).bind fun y ⟨q1, q2, q3⟩ => ?_
    · show (rest.eraseIdx v.1.toNat).length + 1 = rest.length
      rw [List.length_eraseIdx]
      split <;> omega
    · have d' : turns.length = i := d
      refine (ok_push (P := fun z => z.2 = turns ++ [y.1]) (by show turns.length < _; omega) rfl).bind fun z hz => Ok.ret ⟨?_, q3, ?_, ?_, p3⟩
      · show y.2.length + (i + 1) = many.toNat; omega
      · intro k hk
        have hk : k ∈ z.2 := hk
        rw [hz] at hk
        rcases List.mem_append.mp hk with h | h
        · exact c k h
        · rw [List.mem_singleton.mp h]; exact q1
      · show z.2.length = i + 1
        rw [hz]; simp [d']
  · rintro ⟨rest, turns, t'⟩ ⟨a, b, c, d, e⟩
    rw [len_rangeI, show (many - 0).toNat = many.toNat by simp] at e
    have e : Good (n + many.toNat) t' := by simpa using e
    refine (ok_draw e (by omega) (by decide)).bind fun v ⟨p1, p2, p3⟩ => ?_
    refine (ok_atI (P := fun _ => True) p1 (by show v.1 < 3; have p2 : v.1 < max 3 1 := p2; omega) fun _ _ => trivial).bind fun w _ => Ok.ret ⟨fun k hk => c k (mem_cutR hk), p3⟩
/-! ### lowest terms -/
/-- the sign of the second, the divisor of both -/
def sgR (n d : Int) : Int := if d < 0 then -(gcdI n d) else gcdI n d
def lowR (n d : Int) : Option (Int × Int) := fdivR n (sgR n d) >>= fun a => fdivR d (sgR n d) >>= fun b => some (a, b)
theorem whl_gcd (ρ : Type) : ∀ (fuel a b : Nat), b < fuel → (whl fuel ((a : Int), (b : Int)) (fun (s3 : (Int × Int)) => cond (decide ((0 : Int) < s3.2)) (fmodR s3.1 s3.2 >>= fun v4 => some (.nx (s3.2, v4))) (some (.bk s3))) : Option (Fl (Int × Int) ρ)) = some (.nx ((Nat.gcd a b : Int), 0))
  | 0, _, _, h => by omega
  | fuel + 1, a, b, h => by
    unfold whl
    by_cases hb : b = 0
    · subst hb
      show (some (Fl.nx ((a : Int), ((0 : Nat) : Int))) : Option (Fl (Int × Int) ρ)) = _
      simp
    · have hd : decide ((0 : Int) < ((a : Int), (b : Int)).2) = true := decide_eq_true (by show (0 : Int) < b; omega)
      dsimp only
      rw [hd]
      show ((fmodR (a : Int) (b : Int) >>= fun v4 => some (Fl.nx ((b : Int), v4))) >>= _) = _
      rw [fmodR_s (by omega)]
      show whl fuel ((b : Int), (a : Int).fmod b) _ = _
      rw [show (a : Int).fmod b = ((a % b : Nat) : Int) by rw [Int.fmod_eq_emod_of_nonneg _ (by omega)]; rfl]
      rw [whl_gcd ρ fuel b (a % b) (by have := Nat.mod_lt a (Nat.pos_of_ne_zero hb); omega)]
      rw [show Nat.gcd a b = Nat.gcd b (a % b) by rw [Nat.gcd_comm a b, Nat.gcd_rec b a, Nat.gcd_comm]]
theorem absI_nat (x : Int) : absI x = (x.natAbs : Int) := by unfold absI; split <;> omega
theorem low_eq (n d : Int) : m_law_low n d = lowR n d := by
  unfold m_law_low lt
  dsimp only
  rw [absI_nat, absI_nat, show ((d.natAbs : Int)).toNat = d.natAbs by simp]
  rw [whl_gcd (Int × Int) (d.natAbs + 1) n.natAbs d.natAbs (by omega)]
  show ((cond (decide (d < 0)) (some (0 - (Nat.gcd n.natAbs d.natAbs : Int))) (some (Nat.gcd n.natAbs d.natAbs : Int))) >>= fun s5 => fdivR n s5 >>= fun v7 => fdivR d s5 >>= fun v8 => some (v7, v8)) = _
  unfold lowR sgR gcdI
  by_cases h : d < 0
  · rw [if_pos h, show decide (d < 0) = true from decide_eq_true h, Int.zero_sub]; rfl
  · rw [if_neg h, show decide (d < 0) = false from decide_eq_false h]; rfl
theorem gcdI_pos {n d : Int} (h : d ≠ 0) : 0 < gcdI n d := by
  unfold gcdI
  have : 0 < Nat.gcd n.natAbs d.natAbs := Nat.gcd_pos_of_pos_right _ (by omega)
  omega
theorem gcdI_dvd (n d : Int) : gcdI n d ∣ n ∧ gcdI n d ∣ d := by
  unfold gcdI
  exact ⟨Int.ofNat_dvd_left.mpr (Nat.gcd_dvd_left ..), Int.ofNat_dvd_left.mpr (Nat.gcd_dvd_right ..)⟩
theorem gcdI_le {n d : Int} (h : d ≠ 0) : gcdI n d ≤ d.natAbs := by
  unfold gcdI
  have := Nat.gcd_le_right (n := d.natAbs) n.natAbs (by omega)
  omega
/-- the value in lowest terms -/
def lowV (n d : Int) : Int × Int := (n.fdiv (sgR n d), d.fdiv (sgR n d))
theorem lowR_eq {n d : Int} (h : d ≠ 0) (hd : d.natAbs < 2 ^ 250) : lowR n d = some (lowV n d) := by
  have g := gcdI_pos (n := n) h
  have l := gcdI_le (n := n) h
  have s0 : sgR n d ≠ 0 := by unfold sgR; split <;> omega
  have s1 : (sgR n d).natAbs < 2 ^ 250 := by unfold sgR; split <;> omega
  unfold lowR
  rw [fdivR_s s0 s1, fdivR_s s0 s1]; rfl
theorem lowV_mul {n d : Int} (h : d ≠ 0) : (lowV n d).1 * sgR n d = n ∧ (lowV n d).2 * sgR n d = d := by
  obtain ⟨h1, h2⟩ := gcdI_dvd n d
  have d1 : sgR n d ∣ n := by unfold sgR; split; exact Int.neg_dvd.mpr h1; exact h1
  have d2 : sgR n d ∣ d := by unfold sgR; split; exact Int.neg_dvd.mpr h2; exact h2
  exact ⟨Int.fdiv_mul_cancel d1, Int.fdiv_mul_cancel d2⟩
theorem lowV_pos {n d : Int} (h : d ≠ 0) : 0 < (lowV n d).2 := by
  have g := gcdI_pos (n := n) h
  have m := (lowV_mul (n := n) h).2
  unfold sgR at m
  by_cases hd : d < 0
  · rw [if_pos hd] at m
    refine Int.not_le.mp fun q => ?_
    have : 0 ≤ (lowV n d).2 * -gcdI n d := Int.mul_nonneg_of_nonpos_of_nonpos q (by omega)
    omega
  · rw [if_neg hd] at m
    refine Int.not_le.mp fun q => ?_
    have : (lowV n d).2 * gcdI n d ≤ 0 := Int.mul_nonpos_of_nonpos_of_nonneg q (by omega)
    omega
theorem lowV_le {n d : Int} (h : d ≠ 0) : (lowV n d).1.natAbs ≤ n.natAbs ∧ (lowV n d).2.natAbs ≤ d.natAbs := by
  have g := gcdI_pos (n := n) h
  obtain ⟨m1, m2⟩ := lowV_mul (n := n) h
  have s1 : 1 ≤ (sgR n d).natAbs := by unfold sgR; split <;> omega
  constructor
  · calc (lowV n d).1.natAbs ≤ (lowV n d).1.natAbs * (sgR n d).natAbs := Nat.le_mul_of_pos_right _ s1
      _ = n.natAbs := by rw [← Int.natAbs_mul, m1]
  · calc (lowV n d).2.natAbs ≤ (lowV n d).2.natAbs * (sgR n d).natAbs := Nat.le_mul_of_pos_right _ s1
      _ = d.natAbs := by rw [← Int.natAbs_mul, m2]
theorem ok_low {n d : Int} {P : Int × Int → Prop} (h : d ≠ 0) (hd : d.natAbs < 2 ^ 250) (p : P (lowV n d)) : Ok (m_law_low n d) P := ⟨_, by rw [low_eq, lowR_eq h hd], p⟩
theorem ok_forF {α S ρ : Type} (I : S → Prop) {f : α → S → Option (Fl S ρ)} : ∀ (xs : List α) (s : S), I s → (∀ x s, x ∈ xs → I s → Ok (f x s) (fun o => ∃ s', o = .nx s' ∧ I s')) → Ok (forF xs s f) (fun o => ∃ s', o = .nx s' ∧ I s')
  | [], s, h, _ => ⟨_, rfl, s, rfl, h⟩
  | x :: xs, s, h, hf => by
    obtain ⟨o, e, s', rfl, h'⟩ := hf x s (List.mem_cons_self ..) h
    rw [forF, e]
    exact ok_forF I xs s' h' fun y t hy ht => hf y t (List.mem_cons_of_mem _ hy) ht
/-! ### the same, told twice -/
def Plain : Nat → U → Prop
  | 0, _ => False
  | n + 1, .tup l => l.length ≤ 8000000 ∧ ∀ x ∈ l, Plain n x
  | _ + 1, .lst _ => False
  | _ + 1, .opq => False
  | _ + 1, .non => True
  | _ + 1, .bl _ => True
  | _ + 1, .int _ => True
  | _ + 1, .str _ => True
theorem same_ok : ∀ (n : Nat) (u : U), Plain n u → m_law_same n u u = some true
  | 0, _, h => h.elim
  | n + 1, .non, _ => rfl
  | n + 1, .bl b, _ => by cases b <;> rfl
  | n + 1, .int i, _ => by
    show some (decide (i = i)) = some true
    simp
  | n + 1, .str i, _ => by
    show some (decide (i = i)) = some true
    simp
  | n + 1, .lst _, h => h.elim
  | n + 1, .opq, h => h.elim
  | n + 1, .tup l, h => by
    obtain ⟨h1, h2⟩ := h
    show ((cond (!true) (some true) (some (!decide ((l.length : Int) = (l.length : Int))))) >>= fun c5 => cond c5 (some false) (rng1 (l.length : Int) >>= fun v7 => (forF v7 () (fun x9 (s8 : Unit) => U.get (.tup l) x9 >>= fun v10 => U.get (.tup l) x9 >>= fun v11 => m_law_same n v10 v11 >>= fun v12 =>
      cond (!v12) (some (.rt false)) (some (.nx ()))) : Option (Fl Unit Bool)) >>= (fun o => match o with
        | .nx s8 => some true
        | .rt x => some x
        | .bk _ => none
        | .ct _ => none))) = _
    rw [show (!decide ((l.length : Int) = (l.length : Int))) = false by simp]
    show (rng1 (l.length : Int) >>= _) = _
    rw [show rng1 (l.length : Int) = some (rangeI 0 l.length) from if_pos (by unfold CRng; omega)]
    obtain ⟨o, e, s', rfl, _⟩ := ok_forF (ρ := Bool) (fun (_ : Unit) => True) (f := fun x9 (s8 : Unit) => U.get (.tup l) x9 >>= fun v10 => U.get (.tup l) x9 >>= fun v11 => m_law_same n v10 v11 >>= fun v12 =>
      cond (!v12) (some (.rt false)) (some (.nx ()))) (rangeI 0 l.length) () trivial fun x s hx _ => by
        obtain ⟨a, b⟩ := mem_rangeI hx
        obtain ⟨v, ev, hv⟩ := ok_atI (xs := l) (P := fun y => y ∈ l) a b fun y hy => List.mem_of_getElem? hy
        have eg : U.get (.tup l) x = some v := ev
        rw [eg]
        show Ok (m_law_same n v v >>= _) _
        rw [same_ok n v (h2 v hv)]
        exact ⟨_, rfl, (), rfl, trivial⟩
    show (forF (rangeI 0 l.length) () _ >>= _) = _
    rw [e]; rfl
theorem ok_forI {α S : Type} (I : Nat → S → Prop) {f : α → S → Option S} : ∀ (xs : List α) (n : Nat) (s : S), I n s → (∀ j x s, xs[j]? = some x → I (n + j) s → Ok (f x s) (I (n + j + 1))) → Ok (forS xs s f) (I (n + xs.length))
  | [], n, s, h, _ => ⟨s, rfl, h⟩
  | x :: xs, n, s, h, hf => by
    show Ok (f x s >>= fun s' => forS xs s' f) _
    refine (hf 0 x s rfl h).bind fun s' h' => ?_
    have := ok_forI I xs (n + 1) s' h' fun j y t hy ht => by
      have := hf (j + 1) y t (by simpa using hy) (by rw [show n + (j + 1) = n + 1 + j by omega]; exact ht)
      rw [show n + (j + 1) + 1 = n + 1 + j + 1 by omega] at this
      exact this
    rw [List.length_cons, show n + (xs.length + 1) = n + 1 + xs.length by omega]
    exact this
theorem dSeqs_ok {α : Type} {d : U → Option α} {u : α → U} (h : ∀ x, d (u x) = some x) : ∀ xs : List α, dSeq d (uSeq u xs) = some xs := by
  intro xs
  show mapR d (xs.map u) = some xs
  induction xs with
  | nil => rfl
  | cons x xs ih =>
    show (d (u x) >>= fun y => mapR d (xs.map u) >>= fun ys => some (y :: ys)) = _
    rw [h x, ih]; rfl
theorem mapR_map {α β γ : Type} (f : β → Option γ) (u : α → β) : ∀ xs : List α, mapR f (xs.map u) = mapR (fun x => f (u x)) xs
  | [] => rfl
  | x :: xs => by
    show (f (u x) >>= fun y => mapR f (xs.map u) >>= fun ys => some (y :: ys)) = _
    rw [mapR_map f u xs]; rfl
theorem mapR_congr {α β : Type} {f g : α → Option β} : ∀ {xs : List α}, (∀ x ∈ xs, f x = g x) → mapR f xs = mapR g xs
  | [], _ => rfl
  | x :: xs, h => by
    show (f x >>= fun y => mapR f xs >>= fun ys => some (y :: ys)) = (g x >>= fun y => mapR g xs >>= fun ys => some (y :: ys))
    rw [h x (List.mem_cons_self ..), mapR_congr fun y hy => h y (List.mem_cons_of_mem _ hy)]
theorem dSeqU {l : List U} : dSeq some (.tup l) = some l := by
  show mapR some l = some l
  induction l with
  | nil => rfl
  | cons x xs ih =>
    show (some x >>= fun y => mapR some xs >>= fun ys => some (y :: ys)) = _
    rw [ih]; rfl
end Ty

set_option maxHeartbeats 0
namespace K00
open PySem PySem.Spec PyProof.Rows L2 Ty
def top (i : Nat) : Stmt := PySem.Challenge.pw_wherehouse_k00_fractions_and_marks.main.body.getD i (.Pass ⟨0, 0, 0, 0⟩)
structure Txt (K : Frag) (mg : Str → Option Value) : Prop where
  abs_ : mg "abs" = none
  all_ : mg "all" = none
  bool_ : mg "bool" = none
  int_ : mg "int" = none
  isinstance_ : mg "isinstance" = none
  len_ : mg "len" = none
  list_ : mg "list" = none
  max_ : mg "max" = none
  range_ : mg "range" = none
  str_ : mg "str" = none
  tuple_ : mg "tuple" = none
  gcd_ : mg "gcd" = some (.builtin "math.gcd")
  lcm_ : mg "lcm" = some (.builtin "math.lcm")
  c_EDGES : ∃ (ad : Addr) (o : Obj), mg "EDGES" = some (.ref ad) ∧ (∀ W, SqT K W ad ((["west", "south", "east", "north"] : List Str).map V.str)) ∧ (K.lookup ad = some o ∧ o.cls = .type "tuple" ∧ o.dict = none)
section
variable {P : Program} {w : World} {K : Frag} {mg : Str → Option Value} {base : Heap}
def m_lowest (a_n : Int) (a_d : Int) : Option (Int × Int) :=
 lt (gcdI a_n a_d) fun divisor_1 =>
 (cond (decide (a_d < (0 : Int))) (some (-divisor_1)) (some divisor_1)) >>= fun s2 =>
 fdivR a_n s2 >>= fun v3 =>
 fdivR a_d s2 >>= fun v4 =>
 some (v3, v4)
abbrev st_lowest : Stmt := top 2
theorem S_lowest : FnScope ["n", "d", "divisor"] ["n", "d"] (defScope st_lowest) := ⟨rfl, rfl, rfl, by decide +kernel, rfl, by decide +kernel, by decide +kernel⟩
theorem ok_lowest {fa : Addr} {fd : FuncData} (T : Txt K mg) (F : FunD K "lowest" "lowest" (defArgs st_lowest) (defBody st_lowest) (defScope st_lowest) [] [] fa fd) (hm : mg "lowest" = some (.ref fa)) : FnP P w K mg base "lowest" 1 ["n", "d"] (spP K (tcC cInt (tc1 cInt)) (fun x => m_lowest x.1 x.2) (cTup (tcC cInt (tc1 cInt)))) := by
  refine fnp_of hm F (fn_top (fun _ => False) (fun _ h => h.elim) F S_lowest (penC pen1) (fun x => [.im cInt x.1, .im cInt x.2, .no]) fun cdv A outer s H E hr C hB x => ?_) (fun _ _ _ _ _ _ us hl => match us, hl with | [_, _], _ => rfl)
  obtain ⟨a_n, a_d⟩ := x
  show GK _ C _ _ (m_lowest a_n a_d) _
  unfold m_lowest
  exact (gk_cons (gs_let 2 (ex_callFT b_gcd T.gcd_ (ea_cons (ex_var 0 (ea_one (ex_var 1 (⟨_, rfl, fun divisor_1 => gk_cons (gk_join (fun (s2 : Int) => [.im cInt a_n, .im cInt a_d, .im cInt s2]) rfl (gs_if2 (et_cmp o_lt (ex_var 1 (ex_int (⟨_, _, rfl, gk_one (gs_set 2 (ex_neg (ex_var 2 (⟨_, rfl, wk_refl⟩))) S_lowest.nd), gk_nil (⟨_, rfl, wk_refl⟩)⟩))))) (fun s2 => gk_one (gs_ret (ex_tup (ea_cons (ex_op2 o_fdiv (ex_var 0 (ex_var 2 (⟨_, rfl, fun v3 => ea_one (ex_op2 o_fdiv (ex_var 1 (ex_var 2 (⟨_, rfl, fun v4 => rfl⟩))))⟩)))))))))⟩)))))) S_lowest.nd))
def m_plus (a_p : (Int × Int)) (a_q : (Int × Int)) : Option (Int × Int) :=
 mulR a_p.1 a_q.2 >>= fun v1 =>
 mulR a_q.1 a_p.2 >>= fun v2 =>
 mulR a_p.2 a_q.2 >>= fun v3 =>
 m_lowest (v1 + v2) v3 >>= fun v4 =>
 some v4
abbrev st_plus : Stmt := top 3
theorem S_plus : FnScope ["p", "q"] ["p", "q"] (defScope st_plus) := ⟨rfl, rfl, rfl, by decide +kernel, rfl, by decide +kernel, by decide +kernel⟩
theorem ok_plus {fa : Addr} {fd : FuncData} (T : Txt K mg) (F : FunD K "plus" "plus" (defArgs st_plus) (defBody st_plus) (defScope st_plus) [] [] fa fd) (hm : mg "plus" = some (.ref fa)) (F_lowest : FnP P w K mg base "lowest" (1) ["n", "d"] (spP K (tcC cInt (tc1 cInt)) (fun x => m_lowest x.1 x.2) (cTup (tcC cInt (tc1 cInt))))) : FnP P w K mg base "plus" 2 ["p", "q"] (spP K (tcC (cTup (tcC cInt (tc1 cInt))) (tc1 (cTup (tcC cInt (tc1 cInt))))) (fun x => m_plus x.1 x.2) (cTup (tcC cInt (tc1 cInt)))) := by
  refine fnp_of hm F (fn_top (fun _ => False) (fun _ h => h.elim) F S_plus (penC pen1) (fun x => [.im (cTup (tcC cInt (tc1 cInt))) x.1, .im (cTup (tcC cInt (tc1 cInt))) x.2]) fun cdv A outer s H E hr C hB x => ?_) (fun _ _ _ _ _ _ us hl => match us, hl with | [_, _], _ => rfl)
  obtain ⟨a_p, a_q⟩ := x
  show GK _ C _ _ (m_plus a_p a_q) _
  unfold m_plus
  exact (gk_one (gs_ret (ex_call F_lowest (hr.mono (by decide)) (ea_cons (ex_op2T o_add (ex_op2 o_mul (ex_ixT (i := 0) nthZ (ex_var 0 (ex_ixT (i := 1) (nthS nthL) (ex_var 1 (⟨_, rfl, fun v1 => ex_op2 o_mul (ex_ixT (i := 0) nthZ (ex_var 1 (ex_ixT (i := 1) (nthS nthL) (ex_var 0 (⟨_, rfl, fun v2 => ea_one (ex_op2 o_mul (ex_ixT (i := 1) (nthS nthL) (ex_var 0 (ex_ixT (i := 1) (nthS nthL) (ex_var 1 (⟨_, rfl, fun v3 => ⟨_, rfl, fun v4 => rfl⟩⟩))))))⟩)))))⟩)))))))))))
def m_minus (a_p : (Int × Int)) (a_q : (Int × Int)) : Option (Int × Int) :=
 mulR a_p.1 a_q.2 >>= fun v1 =>
 mulR a_q.1 a_p.2 >>= fun v2 =>
 mulR a_p.2 a_q.2 >>= fun v3 =>
 m_lowest (v1 - v2) v3 >>= fun v4 =>
 some v4
abbrev st_minus : Stmt := top 4
theorem S_minus : FnScope ["p", "q"] ["p", "q"] (defScope st_minus) := ⟨rfl, rfl, rfl, by decide +kernel, rfl, by decide +kernel, by decide +kernel⟩
theorem ok_minus {fa : Addr} {fd : FuncData} (T : Txt K mg) (F : FunD K "minus" "minus" (defArgs st_minus) (defBody st_minus) (defScope st_minus) [] [] fa fd) (hm : mg "minus" = some (.ref fa)) (F_lowest : FnP P w K mg base "lowest" (1) ["n", "d"] (spP K (tcC cInt (tc1 cInt)) (fun x => m_lowest x.1 x.2) (cTup (tcC cInt (tc1 cInt))))) : FnP P w K mg base "minus" 2 ["p", "q"] (spP K (tcC (cTup (tcC cInt (tc1 cInt))) (tc1 (cTup (tcC cInt (tc1 cInt))))) (fun x => m_minus x.1 x.2) (cTup (tcC cInt (tc1 cInt)))) := by
  refine fnp_of hm F (fn_top (fun _ => False) (fun _ h => h.elim) F S_minus (penC pen1) (fun x => [.im (cTup (tcC cInt (tc1 cInt))) x.1, .im (cTup (tcC cInt (tc1 cInt))) x.2]) fun cdv A outer s H E hr C hB x => ?_) (fun _ _ _ _ _ _ us hl => match us, hl with | [_, _], _ => rfl)
  obtain ⟨a_p, a_q⟩ := x
  show GK _ C _ _ (m_minus a_p a_q) _
  unfold m_minus
  exact (gk_one (gs_ret (ex_call F_lowest (hr.mono (by decide)) (ea_cons (ex_op2T o_sub (ex_op2 o_mul (ex_ixT (i := 0) nthZ (ex_var 0 (ex_ixT (i := 1) (nthS nthL) (ex_var 1 (⟨_, rfl, fun v1 => ex_op2 o_mul (ex_ixT (i := 0) nthZ (ex_var 1 (ex_ixT (i := 1) (nthS nthL) (ex_var 0 (⟨_, rfl, fun v2 => ea_one (ex_op2 o_mul (ex_ixT (i := 1) (nthS nthL) (ex_var 0 (ex_ixT (i := 1) (nthS nthL) (ex_var 1 (⟨_, rfl, fun v3 => ⟨_, rfl, fun v4 => rfl⟩⟩))))))⟩)))))⟩)))))))))))
def m_times (a_p : (Int × Int)) (a_q : (Int × Int)) : Option (Int × Int) :=
 mulR a_p.1 a_q.1 >>= fun v1 =>
 mulR a_p.2 a_q.2 >>= fun v2 =>
 m_lowest v1 v2 >>= fun v3 =>
 some v3
abbrev st_times : Stmt := top 5
theorem S_times : FnScope ["p", "q"] ["p", "q"] (defScope st_times) := ⟨rfl, rfl, rfl, by decide +kernel, rfl, by decide +kernel, by decide +kernel⟩
theorem ok_times {fa : Addr} {fd : FuncData} (T : Txt K mg) (F : FunD K "times" "times" (defArgs st_times) (defBody st_times) (defScope st_times) [] [] fa fd) (hm : mg "times" = some (.ref fa)) (F_lowest : FnP P w K mg base "lowest" (1) ["n", "d"] (spP K (tcC cInt (tc1 cInt)) (fun x => m_lowest x.1 x.2) (cTup (tcC cInt (tc1 cInt))))) : FnP P w K mg base "times" 2 ["p", "q"] (spP K (tcC (cTup (tcC cInt (tc1 cInt))) (tc1 (cTup (tcC cInt (tc1 cInt))))) (fun x => m_times x.1 x.2) (cTup (tcC cInt (tc1 cInt)))) := by
  refine fnp_of hm F (fn_top (fun _ => False) (fun _ h => h.elim) F S_times (penC pen1) (fun x => [.im (cTup (tcC cInt (tc1 cInt))) x.1, .im (cTup (tcC cInt (tc1 cInt))) x.2]) fun cdv A outer s H E hr C hB x => ?_) (fun _ _ _ _ _ _ us hl => match us, hl with | [_, _], _ => rfl)
  obtain ⟨a_p, a_q⟩ := x
  show GK _ C _ _ (m_times a_p a_q) _
  unfold m_times
  exact (gk_one (gs_ret (ex_call F_lowest (hr.mono (by decide)) (ea_cons (ex_op2 o_mul (ex_ixT (i := 0) nthZ (ex_var 0 (ex_ixT (i := 0) nthZ (ex_var 1 (⟨_, rfl, fun v1 => ea_one (ex_op2 o_mul (ex_ixT (i := 1) (nthS nthL) (ex_var 0 (ex_ixT (i := 1) (nthS nthL) (ex_var 1 (⟨_, rfl, fun v2 => ⟨_, rfl, fun v3 => rfl⟩⟩))))))⟩))))))))))
def m_over (a_p : (Int × Int)) (a_q : (Int × Int)) : Option (Int × Int) :=
 mulR a_p.1 a_q.2 >>= fun v1 =>
 mulR a_p.2 a_q.1 >>= fun v2 =>
 m_lowest v1 v2 >>= fun v3 =>
 some v3
abbrev st_over : Stmt := top 6
theorem S_over : FnScope ["p", "q"] ["p", "q"] (defScope st_over) := ⟨rfl, rfl, rfl, by decide +kernel, rfl, by decide +kernel, by decide +kernel⟩
theorem ok_over {fa : Addr} {fd : FuncData} (T : Txt K mg) (F : FunD K "over" "over" (defArgs st_over) (defBody st_over) (defScope st_over) [] [] fa fd) (hm : mg "over" = some (.ref fa)) (F_lowest : FnP P w K mg base "lowest" (1) ["n", "d"] (spP K (tcC cInt (tc1 cInt)) (fun x => m_lowest x.1 x.2) (cTup (tcC cInt (tc1 cInt))))) : FnP P w K mg base "over" 2 ["p", "q"] (spP K (tcC (cTup (tcC cInt (tc1 cInt))) (tc1 (cTup (tcC cInt (tc1 cInt))))) (fun x => m_over x.1 x.2) (cTup (tcC cInt (tc1 cInt)))) := by
  refine fnp_of hm F (fn_top (fun _ => False) (fun _ h => h.elim) F S_over (penC pen1) (fun x => [.im (cTup (tcC cInt (tc1 cInt))) x.1, .im (cTup (tcC cInt (tc1 cInt))) x.2]) fun cdv A outer s H E hr C hB x => ?_) (fun _ _ _ _ _ _ us hl => match us, hl with | [_, _], _ => rfl)
  obtain ⟨a_p, a_q⟩ := x
  show GK _ C _ _ (m_over a_p a_q) _
  unfold m_over
  exact (gk_one (gs_ret (ex_call F_lowest (hr.mono (by decide)) (ea_cons (ex_op2 o_mul (ex_ixT (i := 0) nthZ (ex_var 0 (ex_ixT (i := 1) (nthS nthL) (ex_var 1 (⟨_, rfl, fun v1 => ea_one (ex_op2 o_mul (ex_ixT (i := 1) (nthS nthL) (ex_var 0 (ex_ixT (i := 0) nthZ (ex_var 1 (⟨_, rfl, fun v2 => ⟨_, rfl, fun v3 => rfl⟩⟩))))))⟩))))))))))
def m_is_less (a_p : (Int × Int)) (a_q : (Int × Int)) : Option Bool :=
 mulR a_p.1 a_q.2 >>= fun v1 =>
 mulR a_q.1 a_p.2 >>= fun v2 =>
 some (decide (v1 < v2))
abbrev st_is_less : Stmt := top 7
theorem S_is_less : FnScope ["p", "q"] ["p", "q"] (defScope st_is_less) := ⟨rfl, rfl, rfl, by decide +kernel, rfl, by decide +kernel, by decide +kernel⟩
theorem ok_is_less {fa : Addr} {fd : FuncData} (T : Txt K mg) (F : FunD K "is_less" "is_less" (defArgs st_is_less) (defBody st_is_less) (defScope st_is_less) [] [] fa fd) (hm : mg "is_less" = some (.ref fa)) : FnP P w K mg base "is_less" 1 ["p", "q"] (spP K (tcC (cTup (tcC cInt (tc1 cInt))) (tc1 (cTup (tcC cInt (tc1 cInt))))) (fun x => m_is_less x.1 x.2) cBool) := by
  refine fnp_of hm F (fn_top (fun _ => False) (fun _ h => h.elim) F S_is_less (penC pen1) (fun x => [.im (cTup (tcC cInt (tc1 cInt))) x.1, .im (cTup (tcC cInt (tc1 cInt))) x.2]) fun cdv A outer s H E hr C hB x => ?_) (fun _ _ _ _ _ _ us hl => match us, hl with | [_, _], _ => rfl)
  obtain ⟨a_p, a_q⟩ := x
  show GK _ C _ _ (m_is_less a_p a_q) _
  unfold m_is_less
  exact (gk_one (gs_ret (ex_cmp o_lt (ex_op2 o_mul (ex_ixT (i := 0) nthZ (ex_var 0 (ex_ixT (i := 1) (nthS nthL) (ex_var 1 (⟨_, rfl, fun v1 => ex_op2 o_mul (ex_ixT (i := 0) nthZ (ex_var 1 (ex_ixT (i := 1) (nthS nthL) (ex_var 0 (⟨_, rfl, fun v2 => rfl⟩)))))⟩)))))))))
def m_common (a_fractions : (List (Int × Int))) : Option Int :=
 forS a_fractions (1 : Int) (fun x2 (s1 : Int) => lcmR s1 x2.2 >>= fun v3 =>
 some v3) >>= fun s1 =>
 some s1
abbrev st_common : Stmt := top 8
theorem S_common : FnScope ["fractions", "shared", "fraction"] ["fractions"] (defScope st_common) := ⟨rfl, rfl, rfl, by decide +kernel, rfl, by decide +kernel, by decide +kernel⟩
theorem ok_common {fa : Addr} {fd : FuncData} (T : Txt K mg) (F : FunD K "common" "common" (defArgs st_common) (defBody st_common) (defScope st_common) [] [] fa fd) (hm : mg "common" = some (.ref fa)) : FnP P w K mg base "common" 1 ["fractions"] (spP K (tc1 (cSeq (cTup (tcC cInt (tc1 cInt))))) (fun x => m_common x) cInt) := by
  refine fnp_of hm F (fn_top (fun _ => False) (fun _ h => h.elim) F S_common pen1 (fun x => [.im (cSeq (cTup (tcC cInt (tc1 cInt)))) x, .no, .no]) fun cdv A outer s H E hr C hB a_fractions => ?_) (fun _ _ _ _ _ _ us hl => match us, hl with | [_], _ => rfl)
  show GK _ C _ _ (m_common a_fractions) _
  unfold m_common
  exact (gk_cons (gs_set 1 (ex_int (gk_cons (gs_forS (c := (cTup (tcC cInt (tc1 cInt)))) (fun (s1 : Int) => [.im (cSeq (cTup (tcC cInt (tc1 cInt)))) a_fractions, .im cInt s1, .no]) rfl (ag_name 2 S_common.nd) (ei_seq (ex_var 0 (⟨_, _, _, rfl, wk_refl, fun x2 s1 => gk_one (gs_set 1 (ex_callF b_lcm T.lcm_ (ea_cons (ex_var 1 (ea_one (ex_ixT (i := 1) (nthS nthL) (ex_var 2 (⟨_, rfl, fun v3 => ⟨_, rfl, wk_drops [2]⟩⟩))))))) S_common.nd), fun s1 => gk_one (gs_ret (ex_var 1 (rfl)))⟩))) .never))) S_common.nd))
def m_is_wide_box (a_box : ((Int × Int) × (Int × Int) × (Int × Int) × (Int × Int))) : Option Bool :=
 m_is_less a_box.1 a_box.2.2.1 >>= fun v1 =>
 (cond v1 (m_is_less a_box.2.1 a_box.2.2.2 >>= fun v2 =>
 some v2) (some false)) >>= fun c3 =>
 some c3
abbrev st_is_wide_box : Stmt := top 10
theorem S_is_wide_box : FnScope ["box", "west", "south", "east", "north"] ["box"] (defScope st_is_wide_box) := ⟨rfl, rfl, rfl, by decide +kernel, rfl, by decide +kernel, by decide +kernel⟩
theorem ok_is_wide_box {fa : Addr} {fd : FuncData} (T : Txt K mg) (F : FunD K "is_wide_box" "is_wide_box" (defArgs st_is_wide_box) (defBody st_is_wide_box) (defScope st_is_wide_box) [] [] fa fd) (hm : mg "is_wide_box" = some (.ref fa)) (F_is_less : FnP P w K mg base "is_less" (1) ["p", "q"] (spP K (tcC (cTup (tcC cInt (tc1 cInt))) (tc1 (cTup (tcC cInt (tc1 cInt))))) (fun x => m_is_less x.1 x.2) cBool)) : FnP P w K mg base "is_wide_box" 2 ["box"] (spP K (tc1 (cTup (tcC (cTup (tcC cInt (tc1 cInt))) (tcC (cTup (tcC cInt (tc1 cInt))) (tcC (cTup (tcC cInt (tc1 cInt))) (tc1 (cTup (tcC cInt (tc1 cInt))))))))) (fun x => m_is_wide_box x) cBool) := by
  refine fnp_of hm F (fn_top (fun _ => False) (fun _ h => h.elim) F S_is_wide_box pen1 (fun x => [.im (cTup (tcC (cTup (tcC cInt (tc1 cInt))) (tcC (cTup (tcC cInt (tc1 cInt))) (tcC (cTup (tcC cInt (tc1 cInt))) (tc1 (cTup (tcC cInt (tc1 cInt)))))))) x, .no, .no, .no, .no]) fun cdv A outer s H E hr C hB a_box => ?_) (fun _ _ _ _ _ _ us hl => match us, hl with | [_], _ => rfl)
  show GK _ C _ _ (m_is_wide_box a_box) _
  unfold m_is_wide_box
  exact (gk_cons (gs_asg (ag_tup rfl (ags_cons (ag_name 1 S_is_wide_box.nd) (ags_cons (ag_name 2 S_is_wide_box.nd) (ags_cons (ag_name 3 S_is_wide_box.nd) (ags_one (ag_name 4 S_is_wide_box.nd)))))) (ex_var 0 (gk_one (gs_ret (ex_and (fun (c : Bool) => c) (fun _ => [.im (cTup (tcC (cTup (tcC cInt (tc1 cInt))) (tcC (cTup (tcC cInt (tc1 cInt))) (tcC (cTup (tcC cInt (tc1 cInt))) (tc1 (cTup (tcC cInt (tc1 cInt)))))))) a_box, .im (cTup (tcC cInt (tc1 cInt))) a_box.1, .im (cTup (tcC cInt (tc1 cInt))) a_box.2.1, .im (cTup (tcC cInt (tc1 cInt))) a_box.2.2.1, .im (cTup (tcC cInt (tc1 cInt))) a_box.2.2.2]) (ex_call F_is_less (hr.mono (by decide)) (ea_cons (ex_var 1 (ea_one (ex_var 3 (⟨_, rfl, fun v1 => ⟨_, false, _, rfl, rfl, wk_refl, ex_one (ex_call F_is_less (hr.mono (by decide)) (ea_cons (ex_var 2 (ea_one (ex_var 4 (⟨_, rfl, fun v2 => fin wk_refl⟩)))))), fun c3 => rfl⟩⟩))))))))))))
def m_mark_of (a_box : ((Int × Int) × (Int × Int) × (Int × Int) × (Int × Int))) (a_mark : Str) : Option (Int × Int) :=
 cond (decide (a_mark = ("width" : Str))) (m_minus a_box.2.2.1 a_box.1 >>= fun v1 =>
 some v1) (cond (decide (a_mark = ("height" : Str))) (m_minus a_box.2.2.2 a_box.2.1 >>= fun v2 =>
 some v2) (idxR (["west", "south", "east", "north"] : List Str) a_mark >>= fun v3 =>
 atI ([a_box.1, a_box.2.1, a_box.2.2.1, a_box.2.2.2]) v3 >>= fun v4 =>
 some v4))
abbrev st_mark_of : Stmt := top 13
theorem S_mark_of : FnScope ["box", "mark"] ["box", "mark"] (defScope st_mark_of) := ⟨rfl, rfl, rfl, by decide +kernel, rfl, by decide +kernel, by decide +kernel⟩
theorem ok_mark_of {fa : Addr} {fd : FuncData} (T : Txt K mg) (F : FunD K "mark_of" "mark_of" (defArgs st_mark_of) (defBody st_mark_of) (defScope st_mark_of) [] [] fa fd) (hm : mg "mark_of" = some (.ref fa)) (F_minus : FnP P w K mg base "minus" (2) ["p", "q"] (spP K (tcC (cTup (tcC cInt (tc1 cInt))) (tc1 (cTup (tcC cInt (tc1 cInt))))) (fun x => m_minus x.1 x.2) (cTup (tcC cInt (tc1 cInt))))) : FnP P w K mg base "mark_of" 3 ["box", "mark"] (spP K (tcC (cTup (tcC (cTup (tcC cInt (tc1 cInt))) (tcC (cTup (tcC cInt (tc1 cInt))) (tcC (cTup (tcC cInt (tc1 cInt))) (tc1 (cTup (tcC cInt (tc1 cInt)))))))) (tc1 cStr)) (fun x => m_mark_of x.1 x.2) (cTup (tcC cInt (tc1 cInt)))) := by
  obtain ⟨ad_EDGES, o_EDGES, g_EDGES, q_EDGES, w_EDGES⟩ := T.c_EDGES
  refine fnp_of hm F (fn_top (fun _ => False) (fun _ h => h.elim) F S_mark_of (penC pen1) (fun x => [.im (cTup (tcC (cTup (tcC cInt (tc1 cInt))) (tcC (cTup (tcC cInt (tc1 cInt))) (tcC (cTup (tcC cInt (tc1 cInt))) (tc1 (cTup (tcC cInt (tc1 cInt)))))))) x.1, .im cStr x.2]) fun cdv A outer s H E hr C hB x => ?_) (fun _ _ _ _ _ _ us hl => match us, hl with | [_, _], _ => rfl)
  obtain ⟨a_box, a_mark⟩ := x
  show GK _ C _ _ (m_mark_of a_box a_mark) _
  unfold m_mark_of
  exact (gk_cons (gs_ifR (et_cmp o_eqS (ex_var 1 (ex_str (⟨_, _, rfl, gk_one (gs_ret (ex_call F_minus (hr.mono (by decide)) (ea_cons (ex_ixT (i := 2) (nthS (nthS nthZ)) (ex_var 0 (ea_one (ex_ixT (i := 0) nthZ (ex_var 0 (⟨_, rfl, fun v1 => rfl⟩))))))))), gk_cons (gs_ifR (et_cmp o_eqS (ex_var 1 (ex_str (⟨_, _, rfl, gk_one (gs_ret (ex_call F_minus (hr.mono (by decide)) (ea_cons (ex_ixT (i := 3) (nthS (nthS (nthS nthL))) (ex_var 0 (ea_one (ex_ixT (i := 1) (nthS nthZ) (ex_var 0 (⟨_, rfl, fun v2 => rfl⟩))))))))), gk_one (gs_ret (ex_ixS (ex_tsq (tsqC (tsqC (tsqC tsq1))) (ex_var 0 (ex_idxK g_EDGES q_EDGES w_EDGES (ex_var 1 (⟨_, rfl, fun v3 => ⟨_, rfl, fun v4 => rfl⟩⟩)))))))⟩)))))⟩))))))
def m_is_wide (a_region : (List ((Int × Int) × (Int × Int) × (Int × Int) × (Int × Int)))) : Option Bool :=
 mapR (fun x1 => m_is_wide_box x1 >>= fun v2 =>
 some v2) a_region >>= fun ys3 =>
 some (ys3.all fun b => b)
abbrev st_is_wide : Stmt := top 14
theorem S_is_wide : FnScope ["region", "box"] ["region"] (defScope st_is_wide) := ⟨rfl, rfl, rfl, by decide +kernel, rfl, by decide +kernel, by decide +kernel⟩
theorem ok_is_wide {fa : Addr} {fd : FuncData} (T : Txt K mg) (F : FunD K "is_wide" "is_wide" (defArgs st_is_wide) (defBody st_is_wide) (defScope st_is_wide) [] [] fa fd) (hm : mg "is_wide" = some (.ref fa)) (F_is_wide_box : FnP P w K mg base "is_wide_box" (2) ["box"] (spP K (tc1 (cTup (tcC (cTup (tcC cInt (tc1 cInt))) (tcC (cTup (tcC cInt (tc1 cInt))) (tcC (cTup (tcC cInt (tc1 cInt))) (tc1 (cTup (tcC cInt (tc1 cInt))))))))) (fun x => m_is_wide_box x) cBool)) : FnP P w K mg base "is_wide" 3 ["region"] (spP K (tc1 (cSeq (cTup (tcC (cTup (tcC cInt (tc1 cInt))) (tcC (cTup (tcC cInt (tc1 cInt))) (tcC (cTup (tcC cInt (tc1 cInt))) (tc1 (cTup (tcC cInt (tc1 cInt)))))))))) (fun x => m_is_wide x) cBool) := by
  refine fnp_of hm F (fn_top (fun _ => False) (fun _ h => h.elim) F S_is_wide pen1 (fun x => [.im (cSeq (cTup (tcC (cTup (tcC cInt (tc1 cInt))) (tcC (cTup (tcC cInt (tc1 cInt))) (tcC (cTup (tcC cInt (tc1 cInt))) (tc1 (cTup (tcC cInt (tc1 cInt))))))))) x, .no]) fun cdv A outer s H E hr C hB a_region => ?_) (fun _ _ _ _ _ _ us hl => match us, hl with | [_], _ => rfl)
  show GK _ C _ _ (m_is_wide a_region) _
  unfold m_is_wide
  exact (gk_one (gs_ret (ex_callBT (b_all rfl) T.all_ bt_all (ea_one (ex_froz (ef_lc rfl S_is_wide.nd (lc_map (ws := [1]) (up := fun Γ (x : ((Int × Int) × (Int × Int) × (Int × Int) × (Int × Int))) => (Γ.set 1 (.im (cTup (tcC (cTup (tcC cInt (tc1 cInt))) (tcC (cTup (tcC cInt (tc1 cInt))) (tcC (cTup (tcC cInt (tc1 cInt))) (tc1 (cTup (tcC cInt (tc1 cInt)))))))) x))) (blkOk_by (own := [("box", 1)]) (by kernel_rfl)) (fun C' sh H Cc cl fp => (ag_name 1 S_is_wide.nd)) (ei_seq (ex_var 0 (⟨_, _, rfl, fun ys3 => rfl, fun C' sh H Cc cl fp x1 => ex_call F_is_wide_box (hr.mono (by decide)) (ea_one (ex_var 1 (⟨_, rfl, fun v2 => ⟨rfl, wk_refl⟩⟩)))⟩))))))))))
abbrev st__law_tape : Stmt := top 16
theorem S__law_tape : FnScope ["script", "mixed", "cell"] ["script"] (defScope st__law_tape) := ⟨rfl, rfl, rfl, by decide +kernel, rfl, by decide +kernel, by decide +kernel⟩
theorem ok__law_tape {fa : Addr} {fd : FuncData} (T : Txt K mg) (F : FunD K "_law_tape" "_law_tape" (defArgs st__law_tape) (defBody st__law_tape) (defScope st__law_tape) [] [] fa fd) (hm : mg "_law_tape" = some (.ref fa)) : FnP P w K mg base "_law_tape" 1 ["script"] (spN K (tc1 cScr) (fun x => m_law_tape x) celT) := by
  refine fnp_of hm F (fn_topN F S__law_tape pen1 (fun x => [.im cScr x, .no, .no]) fun cdv A outer s H E hr C hB a_script => ?_) (fun _ _ _ _ _ _ us hl => match us, hl with | [_], _ => rfl)
  show GK _ C _ _ (m_law_tape a_script) _
  unfold m_law_tape
  exact (gk_cons (gs_set 1 (ex_int (gk_cons (gs_forS (c := cInt) (fun (s1 : Int) => [.im cScr a_script, .im cInt s1, .no]) rfl (ag_name 2 S__law_tape.nd) (ei_scr (ex_var 0 (⟨_, _, _, rfl, wk_refl, fun x2 s1 => gk_one (gs_set 1 (ex_op2 o_mod (ex_callTT b_int T.int_ bt_int (ea_one (ex_op2T o_add (ex_op2 o_mul (ex_var 1 (ex_int (⟨_, rfl, fun v3 => ex_callBT b_abs T.abs_ bt_abs (ea_one (ex_callTT b_int T.int_ bt_int (ea_one (ex_var 2 (ex_int (⟨_, rfl, fun v4 => ⟨_, rfl, wk_drops [2]⟩⟩))))))⟩)))))))) S__law_tape.nd), fun s1 => gk_one (gs_retN (ef_tape (ea_cons (ex_froz (ef_callTT n_listZ T.list_ bt_list (ea_one (ex_var 0 (ea_cons (ex_int (ea_cons (ex_int (ea_one (ex_var 1 (rfl))))))))))))))⟩))) .never))) S__law_tape.nd))
abbrev st__law_draw : Stmt := top 17
theorem S__law_draw : FnScope ["tape", "many", "place", "number"] ["tape", "many"] (defScope st__law_draw) := ⟨rfl, rfl, rfl, by decide +kernel, rfl, by decide +kernel, by decide +kernel⟩
theorem ok__law_draw {fa : Addr} {fd : FuncData} (T : Txt K mg) (F : FunD K "_law_draw" "_law_draw" (defArgs st__law_draw) (defBody st__law_draw) (defScope st__law_draw) [] [] fa fd) (hm : mg "_law_draw" = some (.ref fa)) : FnP P w K mg base "_law_draw" 1 ["tape", "many"] (spM K celT (tc1 cInt) (fun tp x => m_law_draw tp x) cInt) := by
  refine fnp_of hm F (fn_topL F S__law_draw pen1 (fun tp x => [.lp, .im cInt x, .no, .no, .ln celT tp]) fun cdv A outer s H E hr C hB tp a_many => ?_) (fun _ _ _ _ _ _ us hl => match us, hl with | [_, _], _ => rfl)
  show GK _ C _ _ (m_law_draw tp a_many) _
  unfold m_law_draw
  exact (gk_cons (gk_joinF (fun (s1 : Tape) => [.lp, .im cInt a_many, .no, .no, .ln celT s1]) rfl (gs_if2 (et_cmp o_eq (ex_tapeF (kk := 2) 0 4 (ex_int (⟨_, _, rfl, gk_cons (gs_let 2 (ex_tapeF (kk := 1) 0 4 (⟨_, rfl, fun place_2 => gk_cons (gs_set 3 (ex_int (gk_cons (gk_join (fun (s3 : (Int × Tape)) => [.lp, .im cInt a_many, .im cInt place_2, .im cInt s3.1, .ln celT s3.2]) rfl (gs_if2 (et_cmp o_lt (ex_var 2 (ex_callBT b_lenL T.len_ bt_len (ea_one (ex_tape0 0 4 (⟨_, _, rfl, gk_one (gs_let 3 (ex_callBT b_abs T.abs_ bt_abs (ea_one (ex_callTT b_int T.int_ bt_int (ea_one (ex_ixL (ex_tape0 0 4 (ex_var 2 (⟨_, rfl, fun v4 => ⟨_, rfl, fun number_5 => ⟨_, rfl, wk_refl⟩⟩⟩)))))))) S__law_draw.nd), gk_cons (gs_tape (kk := 3) 0 4 (ex_op2 o_mod (ex_callTT b_int T.int_ bt_int (ea_one (ex_op2T o_add (ex_op2T o_add (ex_op2 o_mul (ex_tapeF (kk := 3) 0 4 (ex_int (⟨_, rfl, fun v6 => ex_var 2 (ex_int (ex_int (⟨_, rfl, fun v7 => ⟨rfl, rfl, _, rfl, gk_one (gs_let 3 (ex_tapeF (kk := 3) 0 4 (⟨_, rfl, fun number_9 => ⟨_, rfl, wk_refl⟩⟩)) S__law_draw.nd)⟩⟩)))⟩))))))))))⟩))))))) (fun s3 => gk_cons (gs_tape (kk := 1) 0 4 (ex_op2T o_add (ex_var 2 (ex_int (⟨rfl, rfl, _, rfl, gk_cons (gs_ifR (et_cmp o_lt (ex_var 3 (ex_op2 o_pow (ex_int (ex_int (⟨_, rfl, fun v11 => ⟨_, _, rfl, gk_cons (gs_set 3 (ex_op2 o_mod (ex_callTT b_int T.int_ bt_int (ea_one (ex_op2T o_add (ex_op2T o_add (ex_op2 o_mul (ex_var 3 (ex_int (⟨_, rfl, fun v12 => ex_op2 o_mul (ex_var 2 (ex_int (⟨_, rfl, fun v13 => ex_int (ex_int (⟨_, rfl, fun v14 => gk_cons (gs_set 3 (ex_op2 o_mod (ex_callTT b_int T.int_ bt_int (ea_one (ex_op2 o_mul (ex_var 3 (ex_int (⟨_, rfl, fun v15 => ex_int (⟨_, rfl, fun v16 => gk_one (gs_retL 4 (ex_op2 o_mod (ex_callTT b_int T.int_ bt_int (ea_one (ex_var 3 (ex_callBT (b_max rfl) T.max_ bt_max (ea_cons (ex_var 1 (ea_one (ex_int (⟨_, rfl, fun v17 => by exact ⟨_, rfl, rfl⟩⟩)))))))))))⟩)⟩))))))) S__law_draw.nd)⟩))⟩)))⟩))))))))) S__law_draw.nd), gk_one (gs_tape (kk := 2) 0 4 (ex_var 3 (⟨rfl, rfl, _, rfl, ⟨_, rfl, wk_drops [2, 3]⟩⟩)))⟩⟩)))))))⟩))))))))) S__law_draw.nd)⟩)) S__law_draw.nd), gk_nil (⟨_, rfl, wk_refl⟩)⟩))))) (fun s1 => gk_cons (gs_let 3 (ex_tapeF (kk := 2) 0 4 (⟨_, rfl, fun number_19 => gk_cons (gs_tape (kk := 2) 0 4 (ex_op2 o_fdiv (ex_var 3 (ex_callBT (b_max rfl) T.max_ bt_max (ea_cons (ex_var 1 (ea_one (ex_int (⟨_, rfl, fun v20 => ⟨rfl, rfl, _, rfl, gk_one (gs_retL 4 (ex_op2 o_mod (ex_callTT b_int T.int_ bt_int (ea_one (ex_var 3 (ex_callBT (b_max rfl) T.max_ bt_max (ea_cons (ex_var 1 (ea_one (ex_int (⟨_, rfl, fun v22 => by exact ⟨_, rfl, rfl⟩⟩)))))))))))⟩⟩)))))))))⟩)) S__law_draw.nd)) (fun _ => rfl) (by intro _ _ h; cases h) (by intro _ _ h; cases h)))
abbrev st__law_pick : Stmt := top 18
theorem S__law_pick : FnScope ["tape", "menu"] ["tape", "menu"] (defScope st__law_pick) := ⟨rfl, rfl, rfl, by decide +kernel, rfl, by decide +kernel, by decide +kernel⟩
theorem ok__law_pick {Aa : Type} (ca : Cod K Aa) {fa : Addr} {fd : FuncData} (T : Txt K mg) (F : FunD K "_law_pick" "_law_pick" (defArgs st__law_pick) (defBody st__law_pick) (defScope st__law_pick) [] [] fa fd) (hm : mg "_law_pick" = some (.ref fa)) (F__law_draw : FnP P w K mg base "_law_draw" (1) ["tape", "many"] (spM K celT (tc1 cInt) (fun tp x => m_law_draw tp x) cInt)) : FnP P w K mg base "_law_pick" 2 ["tape", "menu"] (spM K celT (tc1 (cLst ca)) (fun tp x => m_law_pick tp x) ca) := by
  refine fnp_of hm F (fn_topL F S__law_pick pen1 (fun tp x => [.lp, .im (cLst ca) x, .ln celT tp]) fun cdv A outer s H E hr C hB tp a_menu => ?_) (fun _ _ _ _ _ _ us hl => match us, hl with | [_, _], _ => rfl)
  show GK _ C _ _ (m_law_pick tp a_menu) _
  unfold m_law_pick
  exact (gk_one (gs_retL 2 (ex_ixL (ex_var 1 (ex_callL 0 2 F__law_draw (hr.mono (by decide)) (ea_one (ex_callBT b_lenL T.len_ bt_len (ea_one (ex_var 1 (⟨_, rfl, rfl, _, rfl, fun v1 => ⟨_, rfl, fun v2 => by exact ⟨_, rfl, rfl⟩⟩⟩))))))))))
abbrev st__law_turns : Stmt := top 19
theorem S__law_turns : FnScope ["tape", "many", "rest", "turns", "k"] ["tape", "many"] (defScope st__law_turns) := ⟨rfl, rfl, rfl, by decide +kernel, rfl, by decide +kernel, by decide +kernel⟩
theorem ok__law_turns {fa : Addr} {fd : FuncData} (T : Txt K mg) (F : FunD K "_law_turns" "_law_turns" (defArgs st__law_turns) (defBody st__law_turns) (defScope st__law_turns) [] [] fa fd) (hm : mg "_law_turns" = some (.ref fa)) (F__law_draw : FnP P w K mg base "_law_draw" (1) ["tape", "many"] (spM K celT (tc1 cInt) (fun tp x => m_law_draw tp x) cInt)) : FnP P w K mg base "_law_turns" 2 ["tape", "many"] (spMN K celT (tc1 cInt) (fun tp x => m_law_turns tp x) (lstC cInt)) := by
  refine fnp_of hm F (fn_topNL F S__law_turns pen1 (fun tp x => [.lp, .im cInt x, .no, .no, .no, .ln celT tp]) fun cdv A outer s H E hr C hB tp a_many => ?_) (fun _ _ _ _ _ _ us hl => match us, hl with | [_, _], _ => rfl)
  show GK _ C _ _ (m_law_turns tp a_many) _
  unfold m_law_turns
  exact (gk_cons (gs_setN (c := (lstC cInt)) 2 (ef_listRng rfl T.list_ T.range_ (ex_var 1 (⟨_, rfl, fun v1 => gk_cons (gs_setN (c := (lstC cInt)) 3 (ef_lst (el_nil (gk_cons (gs_forS (c := cInt) (fun (s3 : ((List Int) × (List Int) × Tape)) => [.lp, .im cInt a_many, .ow (lstC cInt) s3.1, .ow (lstC cInt) s3.2.1, .no, .ln celT s3.2.2]) rfl (ag_name 4 S__law_turns.nd) (ei_rng1 T.range_ (ex_var 1 (⟨_, rfl, fun v2 => ⟨_, _, _, rfl, wk_refl, fun x4 s3 => gk_one (gs_expr (ex_own 3 m_append PySem.F.slot_list_append PySem.F.type_list_append (ea_one (ex_own 2 m_popAt PySem.F.slot_list_pop PySem.F.type_list_pop (ea_one (ex_callL 0 5 F__law_draw (hr.mono (by decide)) (ea_one (ex_lenO 2 T.len_ (⟨_, rfl, rfl, _, rfl, fun v5 => ⟨rfl, _, rfl, fun v6 => ⟨rfl, _, rfl, fun v7 => ⟨_, rfl, wk_drops [4]⟩⟩⟩⟩))))))))), fun s3 => gk_wk (wk_freeze (Γ' := [.lp, .im cInt a_many, .ow (lstC cInt) s3.1, .im (cLst cInt) s3.2.1, .no, .ln celT s3.2.2]) 3 hB) (gk_one (gs_retNL 5 (ef_slL (ex_var 3 (eo_none (eo_some (ex_ixL (ex_froz (ef_lst (el_cons (ex_var 1 (el_cons (ex_var 1 (el_cons (ex_int (el_nil (ex_callL 0 5 F__law_draw (hr.mono (by decide)) (ea_one (ex_int (⟨_, rfl, rfl, _, rfl, fun v8 => ⟨_, rfl, fun v9 => by exact ⟨_, rfl, rfl⟩⟩⟩))))))))))))))))))))⟩⟩))) .never)))) S__law_turns.nd)⟩))) S__law_turns.nd))
abbrev st__law_put : Stmt := top 20
theorem S__law_put : FnScope ["told", "place", "thing"] ["told", "place", "thing"] (defScope st__law_put) := ⟨rfl, rfl, rfl, by decide +kernel, rfl, by decide +kernel, by decide +kernel⟩
theorem ok__law_put {fa : Addr} {fd : FuncData} (T : Txt K mg) (F : FunD K "_law_put" "_law_put" (defArgs st__law_put) (defBody st__law_put) (defScope st__law_put) [] [] fa fd) (hm : mg "_law_put" = some (.ref fa)) : FnP P w K mg base "_law_put" 1 ["told", "place", "thing"] (spP K (tcC (cSeq cU) (tcC cInt (tc1 cU))) (fun x => m_law_put x.1 x.2.1 x.2.2) (cSeq cU)) := by
  refine fnp_of hm F (fn_top (fun _ => False) (fun _ h => h.elim) F S__law_put (penC (penC pen1)) (fun x => [.im (cSeq cU) x.1, .im cInt x.2.1, .im cU x.2.2]) fun cdv A outer s H E hr C hB x => ?_) (fun _ _ _ _ _ _ us hl => match us, hl with | [_, _, _], _ => rfl)
  obtain ⟨a_told, a_place, a_thing⟩ := x
  show GK _ C _ _ (m_law_put a_told a_place a_thing) _
  unfold m_law_put
  exact (gk_one (gs_ret (ex_op2 o_catS (ex_op2 o_catS (ex_slS (ex_var 0 (eo_none (eo_some (ex_var 1 (ex_tupS (el_cons (ex_var 2 (el_nil (⟨_, rfl, fun v1 => ex_slS (ex_var 0 (eo_some (ex_op2T o_add (ex_var 1 (ex_int (eo_none (⟨_, rfl, fun v2 => rfl⟩)))))))⟩))))))))))))))
abbrev st__law_same : Stmt := top 21
theorem S__law_same : FnScope ["told", "wanted", "k"] ["told", "wanted"] (defScope st__law_same) := ⟨rfl, rfl, rfl, by decide +kernel, rfl, by decide +kernel, by decide +kernel⟩
theorem ok__law_same {fa : Addr} {fd : FuncData} (T : Txt K mg) (F : FunD K "_law_same" "_law_same" (defArgs st__law_same) (defBody st__law_same) (defScope st__law_same) [] [] fa fd) (hm : mg "_law_same" = some (.ref fa)) : ∀ fuel : Nat, FnP P w K mg base "_law_same" (1 + fuel) ["told", "wanted"] (spP K (tcC cU (tc1 cU)) (fun x => m_law_same fuel x.1 x.2) cBool)
  | 0 => by
    refine fnp_of hm F (FnOk.mono (fn_top (fun _ => False) (fun _ h => h.elim) (k := 0) F S__law_same (penC pen1) (fun x => [.im cU x.1, .im cU x.2, .no]) fun cdv A outer s H E hr C hB x => gk_stuck) (by omega)) (fun _ _ _ _ _ _ us hl => match us, hl with | [_, _], _ => rfl)
  | fuel + 1 => by
    have F__law_same := ok__law_same T F hm fuel
    refine fnp_of hm F (fn_top (fun _ => False) (fun _ h => h.elim) F S__law_same (penC pen1) (fun x => [.im cU x.1, .im cU x.2, .no]) fun cdv A outer s H E hr C hB x => ?_) (fun _ _ _ _ _ _ us hl => match us, hl with | [_, _], _ => rfl)
    obtain ⟨a_told, a_wanted⟩ := x
    show GK _ C _ _ (m_law_same (fuel + 1) a_told a_wanted) _
    unfold m_law_same
    exact (gk_cons (gs_ifR (et_val (ex_isi (T := "tuple") T.isinstance_ T.tuple_ bt_tuple (ex_var 1 (⟨_, rfl, fun v1 => ⟨_, _, rfl, gk_cons (gs_ifR (et_w (ew_or (fun (c : Bool) => c) (fun _ => [.im cU a_told, .im cU a_wanted, .no]) (ew_not (et_val (ex_isi (T := "tuple") T.isinstance_ T.tuple_ bt_tuple (ex_var 0 (⟨_, rfl, fun v2 => ⟨_, true, _, rfl, rfl, wk_refl, ew_or1 (et_cmp o_ne (ex_callB b_lenU T.len_ bt_len (ea_one (ex_var 0 (⟨_, rfl, fun v3 => ex_callB b_lenU T.len_ bt_len (ea_one (ex_var 1 (⟨_, rfl, fun v4 => fin wk_refl⟩)))⟩))))), fun c5 => ⟨_, _, rfl, gk_one (gs_ret (ex_bl (rfl))), gk_cons (gs_forF (c := cInt) (fun (s8 : Unit) => [.im cU a_told, .im cU a_wanted, .no]) rfl (ag_name 2 S__law_same.nd) (ei_rng1 T.range_ (ex_callB b_lenU T.len_ bt_len (ea_one (ex_var 1 (⟨_, rfl, fun v6 => ⟨_, rfl, fun v7 => ⟨_, _, _, rfl, wk_refl, fun x9 s8 => gk_one (gs_ifR (ew_not (et_val (ex_call F__law_same (hr.mono (by (try simp only [Nat.add_eq]); omega)) (ea_cons (ex_ixU (ex_var 0 (ex_var 2 (⟨_, rfl, fun v10 => ea_one (ex_ixU (ex_var 1 (ex_var 2 (⟨_, rfl, fun v11 => ⟨_, rfl, fun v12 => ⟨_, _, rfl, gk_one (gs_ret (ex_bl (rfl))), ⟨_, rfl, wk_drops [2]⟩⟩⟩⟩))))⟩))))))))), fun s8 => gk_one (gs_ret (ex_bl (rfl))), fun _ => rfl⟩⟩⟩))))) .never)⟩⟩⟩)))))))), gk_cons (gs_ifR (et_w (ew_or (fun (c : Bool) => c) (fun _ => [.im cU a_told, .im cU a_wanted, .no]) (et_isU (ex_var 1 (⟨_, rfl, fun v13 => ⟨_, true, _, rfl, rfl, wk_refl, ew_or1 (et_isU (ex_var 0 (⟨_, rfl, fun v14 => fin wk_refl⟩))), fun c15 => ⟨_, _, rfl, gk_one (gs_ret (ex_and (fun (c : Bool) => c) (fun _ => [.im cU a_told, .im cU a_wanted, .no]) (ex_isU (ex_var 1 (⟨_, rfl, fun v16 => ⟨_, false, _, rfl, rfl, wk_refl, ex_one (ex_isU (ex_var 0 (⟨_, rfl, fun v17 => fin wk_refl⟩))), fun c18 => rfl⟩⟩))))), gk_cons (gs_ifR (et_val (ex_isi (T := "str") T.isinstance_ T.str_ bt_str (ex_var 1 (⟨_, rfl, fun v19 => ⟨_, _, rfl, gk_one (gs_ret (ex_and (fun (c : Bool) => c) (fun _ => [.im cU a_told, .im cU a_wanted, .no]) (ex_isi (T := "str") T.isinstance_ T.str_ bt_str (ex_var 0 (⟨_, rfl, fun v20 => ⟨_, false, _, rfl, rfl, wk_refl, ex_one (ex_cmpP o_eqU (ex_var 0 (ex_var 1 (⟨_, rfl, fun v21 => fin wk_refl⟩)))), fun c22 => rfl⟩⟩))))), gk_cons (gs_ifR (et_w (ew_or (fun (c : Bool) => c) (fun _ => [.im cU a_told, .im cU a_wanted, .no]) (et_cmp o_neB (ex_isi (T := "bool") T.isinstance_ T.bool_ bt_bool (ex_var 0 (⟨_, rfl, fun v23 => ex_isi (T := "bool") T.isinstance_ T.bool_ bt_bool (ex_var 1 (⟨_, rfl, fun v24 => ⟨_, true, _, rfl, rfl, wk_refl, ew_or1 (ew_not (et_val (ex_isi (T := "int") T.isinstance_ T.int_ bt_int (ex_var 0 (⟨_, rfl, fun v25 => fin wk_refl⟩))))), fun c26 => ⟨_, _, rfl, gk_one (gs_ret (ex_bl (rfl))), gk_one (gs_ret (ex_cmpP o_eqU (ex_var 0 (ex_var 1 (⟨_, rfl, fun v27 => rfl⟩)))))⟩⟩⟩))⟩)))))))⟩⟩)))))⟩⟩⟩))))))⟩⟩))))))
abbrev st__law_low : Stmt := top 22
theorem S__law_low : FnScope ["n", "d", "a", "b"] ["n", "d"] (defScope st__law_low) := ⟨rfl, rfl, rfl, by decide +kernel, rfl, by decide +kernel, by decide +kernel⟩
theorem ok__law_low {fa : Addr} {fd : FuncData} (T : Txt K mg) (F : FunD K "_law_low" "_law_low" (defArgs st__law_low) (defBody st__law_low) (defScope st__law_low) [] [] fa fd) (hm : mg "_law_low" = some (.ref fa)) : FnP P w K mg base "_law_low" 1 ["n", "d"] (spP K (tcC cInt (tc1 cInt)) (fun x => m_law_low x.1 x.2) (cTup (tcC cInt (tc1 cInt)))) := by
  refine fnp_of hm F (fn_top (fun _ => False) (fun _ h => h.elim) F S__law_low (penC pen1) (fun x => [.im cInt x.1, .im cInt x.2, .no, .no]) fun cdv A outer s H E hr C hB x => ?_) (fun _ _ _ _ _ _ us hl => match us, hl with | [_, _], _ => rfl)
  obtain ⟨a_n, a_d⟩ := x
  show GK _ C _ _ (m_law_low a_n a_d) _
  unfold m_law_low
  exact (gk_cons (gs_let 2 (ex_callBT b_abs T.abs_ bt_abs (ea_one (ex_var 0 (⟨_, rfl, fun a_1 => gk_cons (gs_let 3 (ex_callBT b_abs T.abs_ bt_abs (ea_one (ex_var 1 (⟨_, rfl, fun b_2 => gk_cons (gs_while _ _ _ _ (fun (s3 : (Int × Int)) => [.im cInt a_n, .im cInt a_d, .im cInt s3.1, .im cInt s3.2]) rfl (wk_refl) (fun s3 => et_cmp o_gt (ex_var 3 (ex_int (⟨_, rfl, wk_refl, gk_one (gs_par 2 3 rfl S__law_low.nd (ea_cons (ex_var 3 (ea_one (ex_op2 o_mod (ex_callTT b_int T.int_ bt_int (ea_one (ex_var 2 (ex_var 3 (⟨_, rfl, fun v4 => ⟨_, rfl, wk_refl⟩⟩))))))))))⟩)))) (fun s3 => gk_cons (gk_join (fun (s5 : Int) => [.im cInt a_n, .im cInt a_d, .im cInt s5, .im cInt s3.2]) rfl (gs_if2 (et_cmp o_lt (ex_var 1 (ex_int (⟨_, _, rfl, gk_one (gs_let 2 (ex_op2T o_sub (ex_int (ex_var 2 (⟨_, rfl, fun a_6 => ⟨_, rfl, wk_refl⟩⟩)))) S__law_low.nd), gk_nil (⟨_, rfl, wk_refl⟩)⟩))))) (fun s5 => gk_one (gs_ret (ex_tup (ea_cons (ex_op2 o_fdiv (ex_var 0 (ex_var 2 (⟨_, rfl, fun v7 => ea_one (ex_op2 o_fdiv (ex_var 1 (ex_var 2 (⟨_, rfl, fun v8 => rfl⟩))))⟩)))))))))) (fun _ => rfl) .never)⟩)))) S__law_low.nd)⟩)))) S__law_low.nd))
def m_law_plus (a_p : (Int × Int)) (a_q : (Int × Int)) : Option (Int × Int) :=
 mulR a_p.1 a_q.2 >>= fun v1 =>
 mulR a_q.1 a_p.2 >>= fun v2 =>
 mulR a_p.2 a_q.2 >>= fun v3 =>
 m_law_low (v1 + v2) v3 >>= fun v4 =>
 some v4
abbrev st__law_plus : Stmt := top 23
theorem S__law_plus : FnScope ["p", "q"] ["p", "q"] (defScope st__law_plus) := ⟨rfl, rfl, rfl, by decide +kernel, rfl, by decide +kernel, by decide +kernel⟩
theorem ok__law_plus {fa : Addr} {fd : FuncData} (T : Txt K mg) (F : FunD K "_law_plus" "_law_plus" (defArgs st__law_plus) (defBody st__law_plus) (defScope st__law_plus) [] [] fa fd) (hm : mg "_law_plus" = some (.ref fa)) (F__law_low : FnP P w K mg base "_law_low" (1) ["n", "d"] (spP K (tcC cInt (tc1 cInt)) (fun x => m_law_low x.1 x.2) (cTup (tcC cInt (tc1 cInt))))) : FnP P w K mg base "_law_plus" 2 ["p", "q"] (spP K (tcC (cTup (tcC cInt (tc1 cInt))) (tc1 (cTup (tcC cInt (tc1 cInt))))) (fun x => m_law_plus x.1 x.2) (cTup (tcC cInt (tc1 cInt)))) := by
  refine fnp_of hm F (fn_top (fun _ => False) (fun _ h => h.elim) F S__law_plus (penC pen1) (fun x => [.im (cTup (tcC cInt (tc1 cInt))) x.1, .im (cTup (tcC cInt (tc1 cInt))) x.2]) fun cdv A outer s H E hr C hB x => ?_) (fun _ _ _ _ _ _ us hl => match us, hl with | [_, _], _ => rfl)
  obtain ⟨a_p, a_q⟩ := x
  show GK _ C _ _ (m_law_plus a_p a_q) _
  unfold m_law_plus
  exact (gk_one (gs_ret (ex_call F__law_low (hr.mono (by decide)) (ea_cons (ex_op2T o_add (ex_op2 o_mul (ex_ixT (i := 0) nthZ (ex_var 0 (ex_ixT (i := 1) (nthS nthL) (ex_var 1 (⟨_, rfl, fun v1 => ex_op2 o_mul (ex_ixT (i := 0) nthZ (ex_var 1 (ex_ixT (i := 1) (nthS nthL) (ex_var 0 (⟨_, rfl, fun v2 => ea_one (ex_op2 o_mul (ex_ixT (i := 1) (nthS nthL) (ex_var 0 (ex_ixT (i := 1) (nthS nthL) (ex_var 1 (⟨_, rfl, fun v3 => ⟨_, rfl, fun v4 => rfl⟩⟩))))))⟩)))))⟩)))))))))))
def m_law_minus (a_p : (Int × Int)) (a_q : (Int × Int)) : Option (Int × Int) :=
 mulR a_p.1 a_q.2 >>= fun v1 =>
 mulR a_q.1 a_p.2 >>= fun v2 =>
 mulR a_p.2 a_q.2 >>= fun v3 =>
 m_law_low (v1 - v2) v3 >>= fun v4 =>
 some v4
abbrev st__law_minus : Stmt := top 24
theorem S__law_minus : FnScope ["p", "q"] ["p", "q"] (defScope st__law_minus) := ⟨rfl, rfl, rfl, by decide +kernel, rfl, by decide +kernel, by decide +kernel⟩
theorem ok__law_minus {fa : Addr} {fd : FuncData} (T : Txt K mg) (F : FunD K "_law_minus" "_law_minus" (defArgs st__law_minus) (defBody st__law_minus) (defScope st__law_minus) [] [] fa fd) (hm : mg "_law_minus" = some (.ref fa)) (F__law_low : FnP P w K mg base "_law_low" (1) ["n", "d"] (spP K (tcC cInt (tc1 cInt)) (fun x => m_law_low x.1 x.2) (cTup (tcC cInt (tc1 cInt))))) : FnP P w K mg base "_law_minus" 2 ["p", "q"] (spP K (tcC (cTup (tcC cInt (tc1 cInt))) (tc1 (cTup (tcC cInt (tc1 cInt))))) (fun x => m_law_minus x.1 x.2) (cTup (tcC cInt (tc1 cInt)))) := by
  refine fnp_of hm F (fn_top (fun _ => False) (fun _ h => h.elim) F S__law_minus (penC pen1) (fun x => [.im (cTup (tcC cInt (tc1 cInt))) x.1, .im (cTup (tcC cInt (tc1 cInt))) x.2]) fun cdv A outer s H E hr C hB x => ?_) (fun _ _ _ _ _ _ us hl => match us, hl with | [_, _], _ => rfl)
  obtain ⟨a_p, a_q⟩ := x
  show GK _ C _ _ (m_law_minus a_p a_q) _
  unfold m_law_minus
  exact (gk_one (gs_ret (ex_call F__law_low (hr.mono (by decide)) (ea_cons (ex_op2T o_sub (ex_op2 o_mul (ex_ixT (i := 0) nthZ (ex_var 0 (ex_ixT (i := 1) (nthS nthL) (ex_var 1 (⟨_, rfl, fun v1 => ex_op2 o_mul (ex_ixT (i := 0) nthZ (ex_var 1 (ex_ixT (i := 1) (nthS nthL) (ex_var 0 (⟨_, rfl, fun v2 => ea_one (ex_op2 o_mul (ex_ixT (i := 1) (nthS nthL) (ex_var 0 (ex_ixT (i := 1) (nthS nthL) (ex_var 1 (⟨_, rfl, fun v3 => ⟨_, rfl, fun v4 => rfl⟩⟩))))))⟩)))))⟩)))))))))))
def m_law_times (a_p : (Int × Int)) (a_q : (Int × Int)) : Option (Int × Int) :=
 mulR a_p.1 a_q.1 >>= fun v1 =>
 mulR a_p.2 a_q.2 >>= fun v2 =>
 m_law_low v1 v2 >>= fun v3 =>
 some v3
abbrev st__law_times : Stmt := top 25
theorem S__law_times : FnScope ["p", "q"] ["p", "q"] (defScope st__law_times) := ⟨rfl, rfl, rfl, by decide +kernel, rfl, by decide +kernel, by decide +kernel⟩
theorem ok__law_times {fa : Addr} {fd : FuncData} (T : Txt K mg) (F : FunD K "_law_times" "_law_times" (defArgs st__law_times) (defBody st__law_times) (defScope st__law_times) [] [] fa fd) (hm : mg "_law_times" = some (.ref fa)) (F__law_low : FnP P w K mg base "_law_low" (1) ["n", "d"] (spP K (tcC cInt (tc1 cInt)) (fun x => m_law_low x.1 x.2) (cTup (tcC cInt (tc1 cInt))))) : FnP P w K mg base "_law_times" 2 ["p", "q"] (spP K (tcC (cTup (tcC cInt (tc1 cInt))) (tc1 (cTup (tcC cInt (tc1 cInt))))) (fun x => m_law_times x.1 x.2) (cTup (tcC cInt (tc1 cInt)))) := by
  refine fnp_of hm F (fn_top (fun _ => False) (fun _ h => h.elim) F S__law_times (penC pen1) (fun x => [.im (cTup (tcC cInt (tc1 cInt))) x.1, .im (cTup (tcC cInt (tc1 cInt))) x.2]) fun cdv A outer s H E hr C hB x => ?_) (fun _ _ _ _ _ _ us hl => match us, hl with | [_, _], _ => rfl)
  obtain ⟨a_p, a_q⟩ := x
  show GK _ C _ _ (m_law_times a_p a_q) _
  unfold m_law_times
  exact (gk_one (gs_ret (ex_call F__law_low (hr.mono (by decide)) (ea_cons (ex_op2 o_mul (ex_ixT (i := 0) nthZ (ex_var 0 (ex_ixT (i := 0) nthZ (ex_var 1 (⟨_, rfl, fun v1 => ea_one (ex_op2 o_mul (ex_ixT (i := 1) (nthS nthL) (ex_var 0 (ex_ixT (i := 1) (nthS nthL) (ex_var 1 (⟨_, rfl, fun v2 => ⟨_, rfl, fun v3 => rfl⟩⟩))))))⟩))))))))))
def m_law_over (a_p : (Int × Int)) (a_q : (Int × Int)) : Option (Int × Int) :=
 mulR a_p.1 a_q.2 >>= fun v1 =>
 mulR a_p.2 a_q.1 >>= fun v2 =>
 m_law_low v1 v2 >>= fun v3 =>
 some v3
abbrev st__law_over : Stmt := top 26
theorem S__law_over : FnScope ["p", "q"] ["p", "q"] (defScope st__law_over) := ⟨rfl, rfl, rfl, by decide +kernel, rfl, by decide +kernel, by decide +kernel⟩
theorem ok__law_over {fa : Addr} {fd : FuncData} (T : Txt K mg) (F : FunD K "_law_over" "_law_over" (defArgs st__law_over) (defBody st__law_over) (defScope st__law_over) [] [] fa fd) (hm : mg "_law_over" = some (.ref fa)) (F__law_low : FnP P w K mg base "_law_low" (1) ["n", "d"] (spP K (tcC cInt (tc1 cInt)) (fun x => m_law_low x.1 x.2) (cTup (tcC cInt (tc1 cInt))))) : FnP P w K mg base "_law_over" 2 ["p", "q"] (spP K (tcC (cTup (tcC cInt (tc1 cInt))) (tc1 (cTup (tcC cInt (tc1 cInt))))) (fun x => m_law_over x.1 x.2) (cTup (tcC cInt (tc1 cInt)))) := by
  refine fnp_of hm F (fn_top (fun _ => False) (fun _ h => h.elim) F S__law_over (penC pen1) (fun x => [.im (cTup (tcC cInt (tc1 cInt))) x.1, .im (cTup (tcC cInt (tc1 cInt))) x.2]) fun cdv A outer s H E hr C hB x => ?_) (fun _ _ _ _ _ _ us hl => match us, hl with | [_, _], _ => rfl)
  obtain ⟨a_p, a_q⟩ := x
  show GK _ C _ _ (m_law_over a_p a_q) _
  unfold m_law_over
  exact (gk_one (gs_ret (ex_call F__law_low (hr.mono (by decide)) (ea_cons (ex_op2 o_mul (ex_ixT (i := 0) nthZ (ex_var 0 (ex_ixT (i := 1) (nthS nthL) (ex_var 1 (⟨_, rfl, fun v1 => ea_one (ex_op2 o_mul (ex_ixT (i := 1) (nthS nthL) (ex_var 0 (ex_ixT (i := 0) nthZ (ex_var 1 (⟨_, rfl, fun v2 => ⟨_, rfl, fun v3 => rfl⟩⟩))))))⟩))))))))))
def m_law_less (a_p : (Int × Int)) (a_q : (Int × Int)) : Option Bool :=
 mulR a_p.1 a_q.2 >>= fun v1 =>
 mulR a_q.1 a_p.2 >>= fun v2 =>
 some (decide (v1 < v2))
abbrev st__law_less : Stmt := top 27
theorem S__law_less : FnScope ["p", "q"] ["p", "q"] (defScope st__law_less) := ⟨rfl, rfl, rfl, by decide +kernel, rfl, by decide +kernel, by decide +kernel⟩
theorem ok__law_less {fa : Addr} {fd : FuncData} (T : Txt K mg) (F : FunD K "_law_less" "_law_less" (defArgs st__law_less) (defBody st__law_less) (defScope st__law_less) [] [] fa fd) (hm : mg "_law_less" = some (.ref fa)) : FnP P w K mg base "_law_less" 1 ["p", "q"] (spP K (tcC (cTup (tcC cInt (tc1 cInt))) (tc1 (cTup (tcC cInt (tc1 cInt))))) (fun x => m_law_less x.1 x.2) cBool) := by
  refine fnp_of hm F (fn_top (fun _ => False) (fun _ h => h.elim) F S__law_less (penC pen1) (fun x => [.im (cTup (tcC cInt (tc1 cInt))) x.1, .im (cTup (tcC cInt (tc1 cInt))) x.2]) fun cdv A outer s H E hr C hB x => ?_) (fun _ _ _ _ _ _ us hl => match us, hl with | [_, _], _ => rfl)
  obtain ⟨a_p, a_q⟩ := x
  show GK _ C _ _ (m_law_less a_p a_q) _
  unfold m_law_less
  exact (gk_one (gs_ret (ex_cmp o_lt (ex_op2 o_mul (ex_ixT (i := 0) nthZ (ex_var 0 (ex_ixT (i := 1) (nthS nthL) (ex_var 1 (⟨_, rfl, fun v1 => ex_op2 o_mul (ex_ixT (i := 0) nthZ (ex_var 1 (ex_ixT (i := 1) (nthS nthL) (ex_var 0 (⟨_, rfl, fun v2 => rfl⟩)))))⟩)))))))))
def m_law_most (a_p : (Int × Int)) (a_q : (Int × Int)) : Option Bool :=
 mulR a_p.1 a_q.2 >>= fun v1 =>
 mulR a_q.1 a_p.2 >>= fun v2 =>
 some (decide (v1 ≤ v2))
abbrev st__law_most : Stmt := top 28
theorem S__law_most : FnScope ["p", "q"] ["p", "q"] (defScope st__law_most) := ⟨rfl, rfl, rfl, by decide +kernel, rfl, by decide +kernel, by decide +kernel⟩
theorem ok__law_most {fa : Addr} {fd : FuncData} (T : Txt K mg) (F : FunD K "_law_most" "_law_most" (defArgs st__law_most) (defBody st__law_most) (defScope st__law_most) [] [] fa fd) (hm : mg "_law_most" = some (.ref fa)) : FnP P w K mg base "_law_most" 1 ["p", "q"] (spP K (tcC (cTup (tcC cInt (tc1 cInt))) (tc1 (cTup (tcC cInt (tc1 cInt))))) (fun x => m_law_most x.1 x.2) cBool) := by
  refine fnp_of hm F (fn_top (fun _ => False) (fun _ h => h.elim) F S__law_most (penC pen1) (fun x => [.im (cTup (tcC cInt (tc1 cInt))) x.1, .im (cTup (tcC cInt (tc1 cInt))) x.2]) fun cdv A outer s H E hr C hB x => ?_) (fun _ _ _ _ _ _ us hl => match us, hl with | [_, _], _ => rfl)
  obtain ⟨a_p, a_q⟩ := x
  show GK _ C _ _ (m_law_most a_p a_q) _
  unfold m_law_most
  exact (gk_one (gs_ret (ex_cmp o_le (ex_op2 o_mul (ex_ixT (i := 0) nthZ (ex_var 0 (ex_ixT (i := 1) (nthS nthL) (ex_var 1 (⟨_, rfl, fun v1 => ex_op2 o_mul (ex_ixT (i := 0) nthZ (ex_var 1 (ex_ixT (i := 1) (nthS nthL) (ex_var 0 (⟨_, rfl, fun v2 => rfl⟩)))))⟩)))))))))
def m_law_fraction (tp : Tape) (a_low : Int) (a_high : Int) : Option ((Int × Int) × Tape) :=
 m_law_pick tp ([(1 : Int), (1 : Int), (1 : Int), (2 : Int), (2 : Int), (3 : Int), (4 : Int), (6 : Int), (8 : Int)]) >>= fun v1 =>
 mulR a_low v1.1 >>= fun v2 =>
 mulR (a_high - a_low) v1.1 >>= fun v3 =>
 m_law_draw v1.2 (v3 + (1 : Int)) >>= fun v4 =>
 m_law_low (v2 + v4.1) v1.1 >>= fun v5 =>
 some (v5, v4.2)
abbrev st__law_fraction : Stmt := top 29
theorem S__law_fraction : FnScope ["tape", "low", "high", "d"] ["tape", "low", "high"] (defScope st__law_fraction) := ⟨rfl, rfl, rfl, by decide +kernel, rfl, by decide +kernel, by decide +kernel⟩
theorem ok__law_fraction {fa : Addr} {fd : FuncData} (T : Txt K mg) (F : FunD K "_law_fraction" "_law_fraction" (defArgs st__law_fraction) (defBody st__law_fraction) (defScope st__law_fraction) [] [] fa fd) (hm : mg "_law_fraction" = some (.ref fa)) (F__law_pick : ∀ {Aa : Type} (ca : Cod K Aa), FnP P w K mg base "_law_pick" (2) ["tape", "menu"] (spM K celT (tc1 (cLst ca)) (fun tp x => m_law_pick tp x) ca)) (F__law_low : FnP P w K mg base "_law_low" (1) ["n", "d"] (spP K (tcC cInt (tc1 cInt)) (fun x => m_law_low x.1 x.2) (cTup (tcC cInt (tc1 cInt))))) (F__law_draw : FnP P w K mg base "_law_draw" (1) ["tape", "many"] (spM K celT (tc1 cInt) (fun tp x => m_law_draw tp x) cInt)) : FnP P w K mg base "_law_fraction" 3 ["tape", "low", "high"] (spM K celT (tcC cInt (tc1 cInt)) (fun tp x => m_law_fraction tp x.1 x.2) (cTup (tcC cInt (tc1 cInt)))) := by
  refine fnp_of hm F (fn_topL F S__law_fraction (penC pen1) (fun tp x => [.lp, .im cInt x.1, .im cInt x.2, .no, .ln celT tp]) fun cdv A outer s H E hr C hB tp x => ?_) (fun _ _ _ _ _ _ us hl => match us, hl with | [_, _, _], _ => rfl)
  obtain ⟨a_low, a_high⟩ := x
  show GK _ C _ _ (m_law_fraction tp a_low a_high) _
  unfold m_law_fraction
  exact (gk_cons (gs_set 3 (ex_callL 0 4 (F__law_pick cInt) (hr.mono (by decide)) (ea_one (ex_froz (ef_lst (el_cons (ex_int (el_cons (ex_int (el_cons (ex_int (el_cons (ex_int (el_cons (ex_int (el_cons (ex_int (el_cons (ex_int (el_cons (ex_int (el_cons (ex_int (el_nil (⟨_, rfl, rfl, _, rfl, fun v1 => gk_one (gs_retL 4 (ex_call F__law_low (hr.mono (by decide)) (ea_cons (ex_op2T o_add (ex_op2 o_mul (ex_var 1 (ex_var 3 (⟨_, rfl, fun v2 => ex_callL 0 4 F__law_draw (hr.mono (by decide)) (ea_one (ex_op2T o_add (ex_op2 o_mul (ex_op2T o_sub (ex_var 2 (ex_var 1 (ex_var 3 (⟨_, rfl, fun v3 => ex_int (⟨_, rfl, rfl, _, rfl, fun v4 => ea_one (ex_var 3 (⟨_, rfl, fun v5 => by exact ⟨_, rfl, rfl⟩⟩))⟩)⟩))))))))⟩))))))))⟩)))))))))))))))))))))))) S__law_fraction.nd))
def m_law_any (tp : Tape) : Option ((Int × Int) × Tape) :=
 m_law_draw tp (6 : Int) >>= fun v1 =>
 cond (decide (v1.1 = (0 : Int))) (m_law_pick v1.2 ([((0 : Int), (1 : Int)), ((1 : Int), (1 : Int)), ((-(1 : Int)), (1 : Int)), ((1 : Int), (999 : Int)), ((-(1 : Int)), (999 : Int)), ((999999 : Int), (1 : Int)), ((-(999999 : Int)), (1 : Int)), ((999998 : Int), (999 : Int))]) >>= fun v2 =>
 some (v2.1, v2.2)) (cond (decide (v1.1 < (4 : Int))) (m_law_fraction v1.2 (-(4 : Int)) (4 : Int) >>= fun v3 =>
 some (v3.1, v3.2)) (m_law_draw v1.2 (1999999 : Int) >>= fun v4 =>
 m_law_draw v4.2 (999 : Int) >>= fun v5 =>
 m_law_low (v4.1 - (999999 : Int)) ((1 : Int) + v5.1) >>= fun v6 =>
 some (v6, v5.2)))
abbrev st__law_any : Stmt := top 30
theorem S__law_any : FnScope ["tape", "kind"] ["tape"] (defScope st__law_any) := ⟨rfl, rfl, rfl, by decide +kernel, rfl, by decide +kernel, by decide +kernel⟩
theorem ok__law_any {fa : Addr} {fd : FuncData} (T : Txt K mg) (F : FunD K "_law_any" "_law_any" (defArgs st__law_any) (defBody st__law_any) (defScope st__law_any) [] [] fa fd) (hm : mg "_law_any" = some (.ref fa)) (F__law_draw : FnP P w K mg base "_law_draw" (1) ["tape", "many"] (spM K celT (tc1 cInt) (fun tp x => m_law_draw tp x) cInt)) (F__law_pick : ∀ {Aa : Type} (ca : Cod K Aa), FnP P w K mg base "_law_pick" (2) ["tape", "menu"] (spM K celT (tc1 (cLst ca)) (fun tp x => m_law_pick tp x) ca)) (F__law_fraction : FnP P w K mg base "_law_fraction" (3) ["tape", "low", "high"] (spM K celT (tcC cInt (tc1 cInt)) (fun tp x => m_law_fraction tp x.1 x.2) (cTup (tcC cInt (tc1 cInt))))) (F__law_low : FnP P w K mg base "_law_low" (1) ["n", "d"] (spP K (tcC cInt (tc1 cInt)) (fun x => m_law_low x.1 x.2) (cTup (tcC cInt (tc1 cInt))))) : FnP P w K mg base "_law_any" 4 ["tape"] (spM K celT tc0 (fun tp x => m_law_any tp) (cTup (tcC cInt (tc1 cInt)))) := by
  refine fnp_of hm F (fn_topL F S__law_any pen0 (fun tp x => [.lp, .no, .ln celT tp]) fun cdv A outer s H E hr C hB tp x => ?_) (fun _ _ _ _ _ _ us hl => match us, hl with | [_], _ => rfl)
  show GK _ C _ _ (m_law_any tp) _
  unfold m_law_any
  exact (gk_cons (gs_set 1 (ex_callL 0 2 F__law_draw (hr.mono (by decide)) (ea_one (ex_int (⟨_, rfl, rfl, _, rfl, fun v1 => gk_cons (gs_ifR (et_cmp o_eq (ex_var 1 (ex_int (⟨_, _, rfl, gk_one (gs_retL 2 (ex_callL 0 2 (F__law_pick (cTup (tcC cInt (tc1 cInt)))) (hr.mono (by decide)) (ea_one (ex_froz (ef_lst (el_cons (ex_tup (ea_cons (ex_int (ea_one (ex_int (el_cons (ex_tup (ea_cons (ex_int (ea_one (ex_int (el_cons (ex_tup (ea_cons (ex_neg (ex_int (ea_one (ex_int (el_cons (ex_tup (ea_cons (ex_int (ea_one (ex_int (el_cons (ex_tup (ea_cons (ex_neg (ex_int (ea_one (ex_int (el_cons (ex_tup (ea_cons (ex_int (ea_one (ex_int (el_cons (ex_tup (ea_cons (ex_neg (ex_int (ea_one (ex_int (el_cons (ex_tup (ea_cons (ex_int (ea_one (ex_int (el_nil (⟨_, rfl, rfl, _, rfl, fun v2 => by exact ⟨_, rfl, rfl⟩⟩)))))))))))))))))))))))))))))))))))))))))))))))))))))))))), gk_cons (gs_ifR (et_cmp o_lt (ex_var 1 (ex_int (⟨_, _, rfl, gk_one (gs_retL 2 (ex_callL 0 2 F__law_fraction (hr.mono (by decide)) (ea_cons (ex_neg (ex_int (ea_one (ex_int (⟨_, rfl, rfl, _, rfl, fun v3 => by exact ⟨_, rfl, rfl⟩⟩)))))))), gk_one (gs_retL 2 (ex_call F__law_low (hr.mono (by decide)) (ea_cons (ex_op2T o_sub (ex_callL 0 2 F__law_draw (hr.mono (by decide)) (ea_one (ex_int (⟨_, rfl, rfl, _, rfl, fun v4 => ex_int (ea_one (ex_op2T o_add (ex_int (ex_callL 0 2 F__law_draw (hr.mono (by decide)) (ea_one (ex_int (⟨_, rfl, rfl, _, rfl, fun v5 => ⟨_, rfl, fun v6 => by exact ⟨_, rfl, rfl⟩⟩⟩)))))))⟩))))))))⟩)))))⟩)))))⟩)))) S__law_any.nd))
def m_law_beside (tp : Tape) (a_p : (Int × Int)) : Option ((Int × Int) × Tape) :=
 m_law_draw tp (6 : Int) >>= fun v1 =>
 cond (decide (v1.1 = (0 : Int))) (some (a_p, v1.2)) (cond (decide (v1.1 = (1 : Int))) (some ((((0 : Int) - a_p.1), a_p.2), v1.2)) (cond ((decide (v1.1 = (2 : Int))) && ((!decide (a_p.1 = (0 : Int))) && (decide ((absI a_p.1) ≤ (999 : Int))))) (m_law_low a_p.2 a_p.1 >>= fun v2 =>
 some (v2, v1.2)) (cond ((decide (v1.1 < (5 : Int))) && ((decide ((absI a_p.1) ≤ (999 : Int))) && (decide (a_p.2 ≤ (31 : Int))))) (m_law_draw v1.2 (31 : Int) >>= fun v3 =>
 lt ((1 : Int) + v3.1) fun e_4 =>
 mulR a_p.1 e_4 >>= fun v5 =>
 m_law_draw v3.2 (3 : Int) >>= fun v6 =>
 mulR a_p.2 e_4 >>= fun v7 =>
 m_law_low ((v5 + v6.1) - (1 : Int)) v7 >>= fun v8 =>
 some (v8, v6.2)) (m_law_any v1.2 >>= fun v9 =>
 some (v9.1, v9.2)))))
abbrev st__law_beside : Stmt := top 31
theorem S__law_beside : FnScope ["tape", "p", "kind", "e"] ["tape", "p"] (defScope st__law_beside) := ⟨rfl, rfl, rfl, by decide +kernel, rfl, by decide +kernel, by decide +kernel⟩
theorem ok__law_beside {fa : Addr} {fd : FuncData} (T : Txt K mg) (F : FunD K "_law_beside" "_law_beside" (defArgs st__law_beside) (defBody st__law_beside) (defScope st__law_beside) [] [] fa fd) (hm : mg "_law_beside" = some (.ref fa)) (F__law_draw : FnP P w K mg base "_law_draw" (1) ["tape", "many"] (spM K celT (tc1 cInt) (fun tp x => m_law_draw tp x) cInt)) (F__law_low : FnP P w K mg base "_law_low" (1) ["n", "d"] (spP K (tcC cInt (tc1 cInt)) (fun x => m_law_low x.1 x.2) (cTup (tcC cInt (tc1 cInt))))) (F__law_any : FnP P w K mg base "_law_any" (4) ["tape"] (spM K celT tc0 (fun tp x => m_law_any tp) (cTup (tcC cInt (tc1 cInt))))) : FnP P w K mg base "_law_beside" 5 ["tape", "p"] (spM K celT (tc1 (cTup (tcC cInt (tc1 cInt)))) (fun tp x => m_law_beside tp x) (cTup (tcC cInt (tc1 cInt)))) := by
  refine fnp_of hm F (fn_topL F S__law_beside pen1 (fun tp x => [.lp, .im (cTup (tcC cInt (tc1 cInt))) x, .no, .no, .ln celT tp]) fun cdv A outer s H E hr C hB tp a_p => ?_) (fun _ _ _ _ _ _ us hl => match us, hl with | [_, _], _ => rfl)
  show GK _ C _ _ (m_law_beside tp a_p) _
  unfold m_law_beside
  exact (gk_cons (gs_set 2 (ex_callL 0 4 F__law_draw (hr.mono (by decide)) (ea_one (ex_int (⟨_, rfl, rfl, _, rfl, fun v1 => gk_cons (gs_ifR (et_cmp o_eq (ex_var 2 (ex_int (⟨_, _, rfl, gk_one (gs_retL 4 (ex_var 1 (by exact ⟨_, rfl, rfl⟩))), gk_cons (gs_ifR (et_cmp o_eq (ex_var 2 (ex_int (⟨_, _, rfl, gk_one (gs_retL 4 (ex_tup (ea_cons (ex_op2T o_sub (ex_int (ex_ixT (i := 0) nthZ (ex_var 1 (ea_one (ex_ixT (i := 1) (nthS nthL) (ex_var 1 (by exact ⟨_, rfl, rfl⟩))))))))))), gk_cons (gs_ifR (et_w (ew_andT (et_cmp o_eq (ex_var 2 (ex_int (⟨((!decide (a_p.1 = (0 : Int))) && (decide ((absI a_p.1) ≤ (999 : Int)))), ew_andT (et_cmp o_ne (ex_ixT (i := 0) nthZ (ex_var 1 (ex_int (⟨(decide ((absI a_p.1) ≤ (999 : Int))), ew_and1 (et_cmp o_le (ex_callBT b_abs T.abs_ bt_abs (ea_one (ex_ixT (i := 0) nthZ (ex_var 1 (ex_int (fin wk_refl))))))), fin wk_refl⟩))))), ⟨_, _, rfl, gk_one (gs_retL 4 (ex_call F__law_low (hr.mono (by decide)) (ea_cons (ex_ixT (i := 1) (nthS nthL) (ex_var 1 (ea_one (ex_ixT (i := 0) nthZ (ex_var 1 (⟨_, rfl, fun v2 => by exact ⟨_, rfl, rfl⟩⟩))))))))), gk_cons (gs_ifR (et_w (ew_andT (et_cmp o_lt (ex_var 2 (ex_int (⟨((decide ((absI a_p.1) ≤ (999 : Int))) && (decide (a_p.2 ≤ (31 : Int)))), ew_andT (et_cmp o_le (ex_callBT b_abs T.abs_ bt_abs (ea_one (ex_ixT (i := 0) nthZ (ex_var 1 (ex_int (⟨(decide (a_p.2 ≤ (31 : Int))), ew_and1 (et_cmp o_le (ex_ixT (i := 1) (nthS nthL) (ex_var 1 (ex_int (fin wk_refl))))), fin wk_refl⟩))))))), ⟨_, _, rfl, gk_cons (gs_let 3 (ex_op2T o_add (ex_int (ex_callL 0 4 F__law_draw (hr.mono (by decide)) (ea_one (ex_int (⟨_, rfl, rfl, _, rfl, fun v3 => ⟨_, rfl, fun e_4 => gk_one (gs_retL 4 (ex_call F__law_low (hr.mono (by decide)) (ea_cons (ex_op2T o_sub (ex_op2T o_add (ex_op2 o_mul (ex_ixT (i := 0) nthZ (ex_var 1 (ex_var 3 (⟨_, rfl, fun v5 => ex_callL 0 4 F__law_draw (hr.mono (by decide)) (ea_one (ex_int (⟨_, rfl, rfl, _, rfl, fun v6 => ex_int (ea_one (ex_op2 o_mul (ex_ixT (i := 1) (nthS nthL) (ex_var 1 (ex_var 3 (⟨_, rfl, fun v7 => ⟨_, rfl, fun v8 => by exact ⟨_, rfl, rfl⟩⟩⟩))))))⟩)))⟩))))))))))⟩⟩)))))) S__law_beside.nd), gk_one (gs_retL 4 (ex_callL 0 4 F__law_any (hr.mono (by decide)) (ea_nil (⟨_, rfl, rfl, _, rfl, fun v9 => by exact ⟨_, rfl, rfl⟩⟩))))⟩⟩)))))))⟩⟩)))))))⟩)))))⟩)))))⟩)))) S__law_beside.nd))
def m_law_box (tp : Tape) : Option (((Int × Int) × (Int × Int) × (Int × Int) × (Int × Int)) × Tape) :=
 m_law_any tp >>= fun v1 =>
 m_law_any v1.2 >>= fun v2 =>
 m_law_beside v2.2 v1.1 >>= fun v3 =>
 m_law_beside v3.2 v2.1 >>= fun v4 =>
 m_law_most v2.1 v4.1 >>= fun v5 =>
 lt (cond v5 v2.1 v4.1) fun low_6 =>
 m_law_most v2.1 v4.1 >>= fun v7 =>
 lt (cond v7 v4.1 v2.1) fun high_8 =>
 m_law_most v1.1 v3.1 >>= fun v9 =>
 cond v9 (some ((v1.1, low_6, v3.1, high_8), v4.2)) (some ((v3.1, low_6, v1.1, high_8), v4.2))
abbrev st__law_box : Stmt := top 32
theorem S__law_box : FnScope ["tape", "x", "y", "a", "b", "low", "high"] ["tape"] (defScope st__law_box) := ⟨rfl, rfl, rfl, by decide +kernel, rfl, by decide +kernel, by decide +kernel⟩
theorem ok__law_box {fa : Addr} {fd : FuncData} (T : Txt K mg) (F : FunD K "_law_box" "_law_box" (defArgs st__law_box) (defBody st__law_box) (defScope st__law_box) [] [] fa fd) (hm : mg "_law_box" = some (.ref fa)) (F__law_any : FnP P w K mg base "_law_any" (4) ["tape"] (spM K celT tc0 (fun tp x => m_law_any tp) (cTup (tcC cInt (tc1 cInt))))) (F__law_beside : FnP P w K mg base "_law_beside" (5) ["tape", "p"] (spM K celT (tc1 (cTup (tcC cInt (tc1 cInt)))) (fun tp x => m_law_beside tp x) (cTup (tcC cInt (tc1 cInt))))) (F__law_most : FnP P w K mg base "_law_most" (1) ["p", "q"] (spP K (tcC (cTup (tcC cInt (tc1 cInt))) (tc1 (cTup (tcC cInt (tc1 cInt))))) (fun x => m_law_most x.1 x.2) cBool)) : FnP P w K mg base "_law_box" 6 ["tape"] (spM K celT tc0 (fun tp x => m_law_box tp) (cTup (tcC (cTup (tcC cInt (tc1 cInt))) (tcC (cTup (tcC cInt (tc1 cInt))) (tcC (cTup (tcC cInt (tc1 cInt))) (tc1 (cTup (tcC cInt (tc1 cInt))))))))) := by
  refine fnp_of hm F (fn_topL F S__law_box pen0 (fun tp x => [.lp, .no, .no, .no, .no, .no, .no, .ln celT tp]) fun cdv A outer s H E hr C hB tp x => ?_) (fun _ _ _ _ _ _ us hl => match us, hl with | [_], _ => rfl)
  show GK _ C _ _ (m_law_box tp) _
  unfold m_law_box
  exact (gk_cons (gs_set 1 (ex_callL 0 7 F__law_any (hr.mono (by decide)) (ea_nil (⟨_, rfl, rfl, _, rfl, fun v1 => gk_cons (gs_set 2 (ex_callL 0 7 F__law_any (hr.mono (by decide)) (ea_nil (⟨_, rfl, rfl, _, rfl, fun v2 => gk_cons (gs_set 3 (ex_callL 0 7 F__law_beside (hr.mono (by decide)) (ea_one (ex_var 1 (⟨_, rfl, rfl, _, rfl, fun v3 => gk_cons (gs_set 4 (ex_callL 0 7 F__law_beside (hr.mono (by decide)) (ea_one (ex_var 2 (⟨_, rfl, rfl, _, rfl, fun v4 => gk_cons (gs_let 5 (ex_ifT (et_val (ex_call F__law_most (hr.mono (by decide)) (ea_cons (ex_var 2 (ea_one (ex_var 4 (⟨_, rfl, fun v5 => ⟨v2.1, v4.1, ex_var 2 (fin wk_refl), ex_var 4 (fin wk_refl), ⟨_, rfl, fun low_6 => gk_cons (gs_let 6 (ex_ifT (et_val (ex_call F__law_most (hr.mono (by decide)) (ea_cons (ex_var 2 (ea_one (ex_var 4 (⟨_, rfl, fun v7 => ⟨v4.1, v2.1, ex_var 4 (fin wk_refl), ex_var 2 (fin wk_refl), ⟨_, rfl, fun high_8 => gk_cons (gs_ifR (et_val (ex_call F__law_most (hr.mono (by decide)) (ea_cons (ex_var 1 (ea_one (ex_var 3 (⟨_, rfl, fun v9 => ⟨_, _, rfl, gk_one (gs_retL 7 (ex_tup (ea_cons (ex_var 1 (ea_cons (ex_var 5 (ea_cons (ex_var 3 (ea_one (ex_var 6 (by exact ⟨_, rfl, rfl⟩))))))))))), gk_one (gs_retL 7 (ex_tup (ea_cons (ex_var 3 (ea_cons (ex_var 5 (ea_cons (ex_var 1 (ea_one (ex_var 6 (by exact ⟨_, rfl, rfl⟩)))))))))))⟩⟩))))))))⟩⟩⟩)))))))) S__law_box.nd)⟩⟩⟩)))))))) S__law_box.nd)⟩)))) S__law_box.nd)⟩)))) S__law_box.nd)⟩))) S__law_box.nd)⟩))) S__law_box.nd))
def m_law_two_integers (tp : Tape) : Option ((Int × Int) × Tape) :=
 m_law_draw tp (1000 : Int) >>= fun v1 =>
 m_law_draw v1.2 (999 : Int) >>= fun v2 =>
 lt ((1 : Int) + v2.1) fun d_3 =>
 m_law_draw v2.2 (4 : Int) >>= fun v4 =>
 (cond (decide (v4.1 = (0 : Int))) (m_law_draw v4.2 (1000000 : Int) >>= fun v6 =>
 m_law_draw v6.2 (999999 : Int) >>= fun v7 =>
 lt ((1 : Int) + v7.1) fun d_8 =>
 some (v6.1, d_8, v7.2)) ((cond (decide (v4.1 < (3 : Int))) (m_law_draw v4.2 (999 : Int) >>= fun v10 =>
 lt ((1 : Int) + v10.1) fun g_11 =>
 mulR v1.1 g_11 >>= fun v12 =>
 mulR d_3 g_11 >>= fun v13 =>
 some (v12, v13, v10.2)) (some (v1.1, d_3, v4.2))) >>= fun s9 =>
 some (s9.1, s9.2.1, s9.2.2))) >>= fun s5 =>
 m_law_pick s5.2.2 ([s5.1, s5.1, s5.1, s5.1, s5.1, (0 : Int), s5.2.1, (999999 : Int)]) >>= fun v14 =>
 m_law_pick v14.2 ([(1 : Int), (-(1 : Int))]) >>= fun v15 =>
 mulR v14.1 v15.1 >>= fun v16 =>
 m_law_pick v15.2 ([(1 : Int), (-(1 : Int))]) >>= fun v17 =>
 mulR s5.2.1 v17.1 >>= fun v18 =>
 some ((v16, v18), v17.2)
abbrev st__law_two_integers : Stmt := top 33
theorem S__law_two_integers : FnScope ["tape", "n", "d", "kind", "g"] ["tape"] (defScope st__law_two_integers) := ⟨rfl, rfl, rfl, by decide +kernel, rfl, by decide +kernel, by decide +kernel⟩
theorem ok__law_two_integers {fa : Addr} {fd : FuncData} (T : Txt K mg) (F : FunD K "_law_two_integers" "_law_two_integers" (defArgs st__law_two_integers) (defBody st__law_two_integers) (defScope st__law_two_integers) [] [] fa fd) (hm : mg "_law_two_integers" = some (.ref fa)) (F__law_draw : FnP P w K mg base "_law_draw" (1) ["tape", "many"] (spM K celT (tc1 cInt) (fun tp x => m_law_draw tp x) cInt)) (F__law_pick : ∀ {Aa : Type} (ca : Cod K Aa), FnP P w K mg base "_law_pick" (2) ["tape", "menu"] (spM K celT (tc1 (cLst ca)) (fun tp x => m_law_pick tp x) ca)) : FnP P w K mg base "_law_two_integers" 3 ["tape"] (spM K celT tc0 (fun tp x => m_law_two_integers tp) (cTup (tcC cInt (tc1 cInt)))) := by
  refine fnp_of hm F (fn_topL F S__law_two_integers pen0 (fun tp x => [.lp, .no, .no, .no, .no, .ln celT tp]) fun cdv A outer s H E hr C hB tp x => ?_) (fun _ _ _ _ _ _ us hl => match us, hl with | [_], _ => rfl)
  show GK _ C _ _ (m_law_two_integers tp) _
  unfold m_law_two_integers
  exact (gk_cons (gs_set 1 (ex_callL 0 5 F__law_draw (hr.mono (by decide)) (ea_one (ex_int (⟨_, rfl, rfl, _, rfl, fun v1 => gk_cons (gs_let 2 (ex_op2T o_add (ex_int (ex_callL 0 5 F__law_draw (hr.mono (by decide)) (ea_one (ex_int (⟨_, rfl, rfl, _, rfl, fun v2 => ⟨_, rfl, fun d_3 => gk_cons (gs_set 3 (ex_callL 0 5 F__law_draw (hr.mono (by decide)) (ea_one (ex_int (⟨_, rfl, rfl, _, rfl, fun v4 => gk_cons (gk_join (fun (s5 : (Int × Int × Tape)) => [.lp, .im cInt s5.1, .im cInt s5.2.1, .im cInt v4.1, .no, .ln celT s5.2.2]) rfl (gs_if2 (et_cmp o_eq (ex_var 3 (ex_int (⟨_, _, rfl, gk_cons (gs_set 1 (ex_callL 0 5 F__law_draw (hr.mono (by decide)) (ea_one (ex_int (⟨_, rfl, rfl, _, rfl, fun v6 => gk_one (gs_let 2 (ex_op2T o_add (ex_int (ex_callL 0 5 F__law_draw (hr.mono (by decide)) (ea_one (ex_int (⟨_, rfl, rfl, _, rfl, fun v7 => ⟨_, rfl, fun d_8 => ⟨_, rfl, wk_refl⟩⟩⟩)))))) S__law_two_integers.nd)⟩)))) S__law_two_integers.nd), gk_one (gk_join (fun (s9 : (Int × Int × Tape)) => [.lp, .im cInt s9.1, .im cInt s9.2.1, .im cInt v4.1, .no, .ln celT s9.2.2]) rfl (gs_if2 (et_cmp o_lt (ex_var 3 (ex_int (⟨_, _, rfl, gk_cons (gs_let 4 (ex_op2T o_add (ex_int (ex_callL 0 5 F__law_draw (hr.mono (by decide)) (ea_one (ex_int (⟨_, rfl, rfl, _, rfl, fun v10 => ⟨_, rfl, fun g_11 => gk_cons (gs_set 1 (ex_op2 o_mul (ex_var 1 (ex_var 4 (⟨_, rfl, fun v12 => gk_one (gs_set 2 (ex_op2 o_mul (ex_var 2 (ex_var 4 (⟨_, rfl, fun v13 => ⟨_, rfl, wk_drops [4]⟩⟩)))) S__law_two_integers.nd)⟩)))) S__law_two_integers.nd)⟩⟩)))))) S__law_two_integers.nd), gk_nil (⟨_, rfl, wk_refl⟩)⟩))))) (fun s9 => ⟨_, rfl, wk_refl⟩))⟩))))) (fun s5 => gk_cons (gs_set 1 (ex_callL 0 5 (F__law_pick cInt) (hr.mono (by decide)) (ea_one (ex_froz (ef_lst (el_cons (ex_var 1 (el_cons (ex_var 1 (el_cons (ex_var 1 (el_cons (ex_var 1 (el_cons (ex_var 1 (el_cons (ex_int (el_cons (ex_var 2 (el_cons (ex_int (el_nil (⟨_, rfl, rfl, _, rfl, fun v14 => gk_one (gs_retL 5 (ex_tup (ea_cons (ex_op2 o_mul (ex_var 1 (ex_callL 0 5 (F__law_pick cInt) (hr.mono (by decide)) (ea_one (ex_froz (ef_lst (el_cons (ex_int (el_cons (ex_neg (ex_int (el_nil (⟨_, rfl, rfl, _, rfl, fun v15 => ⟨_, rfl, fun v16 => ea_one (ex_op2 o_mul (ex_var 2 (ex_callL 0 5 (F__law_pick cInt) (hr.mono (by decide)) (ea_one (ex_froz (ef_lst (el_cons (ex_int (el_cons (ex_neg (ex_int (el_nil (⟨_, rfl, rfl, _, rfl, fun v17 => ⟨_, rfl, fun v18 => by exact ⟨_, rfl, rfl⟩⟩⟩)))))))))))))⟩⟩))))))))))))))))⟩)))))))))))))))))))))) S__law_two_integers.nd)))⟩)))) S__law_two_integers.nd)⟩⟩)))))) S__law_two_integers.nd)⟩)))) S__law_two_integers.nd))
def m_law_part_of_asking (tp : Tape) (a_place : Int) (a_p : U) : Option (U × Tape) :=
 cond (decide (a_place = (0 : Int))) (m_law_two_integers tp >>= fun v1 =>
 some (((uTup (uRC uInt (uR1 uInt))) v1.1), v1.2)) (cond (decide (a_place = (1 : Int))) (m_law_any tp >>= fun v2 =>
 some (((uTup (uRC uInt (uR1 uInt))) v2.1), v2.2)) (cond (decide (a_place = (2 : Int))) ((dTup (dRC dInt (dR1 dInt))) a_p >>= fun v3 =>
 m_law_beside tp v3 >>= fun v4 =>
 some (((uTup (uRC uInt (uR1 uInt))) v4.1), v4.2)) (cond (decide (a_place = (3 : Int))) (m_law_draw tp (8 : Int) >>= fun v5 =>
 (cond (decide (v5.1 = (0 : Int))) (some ((24 : Int), v5.2)) (m_law_draw v5.2 (7 : Int) >>= fun v6 =>
 some (v6.1, v6.2))) >>= fun c7 =>
 rng1 c7.1 >>= fun v9 =>
 mapS (fun x10 s11 => m_law_any s11 >>= fun v12 =>
 some (v12.1, v12.2)) v9 c7.2 >>= fun ys13 =>
 some (((uSeq (uTup (uRC uInt (uR1 uInt)))) ys13.1), ys13.2)) (cond (decide (a_place = (4 : Int))) (m_law_draw tp (8 : Int) >>= fun v14 =>
 (cond (decide (v14.1 = (0 : Int))) (some ((6 : Int), v14.2)) (m_law_draw v14.2 (3 : Int) >>= fun v15 =>
 some (((1 : Int) + v15.1), v15.2))) >>= fun c16 =>
 rng1 c16.1 >>= fun v18 =>
 mapS (fun x19 s20 => m_law_box s20 >>= fun v21 =>
 some (v21.1, v21.2)) v18 c16.2 >>= fun ys22 =>
 some (((uSeq (uTup (uRC (uTup (uRC uInt (uR1 uInt))) (uRC (uTup (uRC uInt (uR1 uInt))) (uRC (uTup (uRC uInt (uR1 uInt))) (uR1 (uTup (uRC uInt (uR1 uInt))))))))) ys22.1), ys22.2)) (m_law_pick tp ([("west" : Str), ("south" : Str), ("east" : Str), ("north" : Str), ("width" : Str), ("height" : Str)]) >>= fun v23 =>
 some ((uStr v23.1), v23.2))))))
abbrev st__law_part_of_asking : Stmt := top 34
theorem S__law_part_of_asking : FnScope ["tape", "place", "p", "many", "k"] ["tape", "place", "p"] (defScope st__law_part_of_asking) := ⟨rfl, rfl, rfl, by decide +kernel, rfl, by decide +kernel, by decide +kernel⟩
theorem ok__law_part_of_asking {fa : Addr} {fd : FuncData} (T : Txt K mg) (F : FunD K "_law_part_of_asking" "_law_part_of_asking" (defArgs st__law_part_of_asking) (defBody st__law_part_of_asking) (defScope st__law_part_of_asking) [] [] fa fd) (hm : mg "_law_part_of_asking" = some (.ref fa)) (F__law_two_integers : FnP P w K mg base "_law_two_integers" (3) ["tape"] (spM K celT tc0 (fun tp x => m_law_two_integers tp) (cTup (tcC cInt (tc1 cInt))))) (F__law_any : FnP P w K mg base "_law_any" (4) ["tape"] (spM K celT tc0 (fun tp x => m_law_any tp) (cTup (tcC cInt (tc1 cInt))))) (F__law_beside : FnP P w K mg base "_law_beside" (5) ["tape", "p"] (spM K celT (tc1 (cTup (tcC cInt (tc1 cInt)))) (fun tp x => m_law_beside tp x) (cTup (tcC cInt (tc1 cInt))))) (F__law_draw : FnP P w K mg base "_law_draw" (1) ["tape", "many"] (spM K celT (tc1 cInt) (fun tp x => m_law_draw tp x) cInt)) (F__law_box : FnP P w K mg base "_law_box" (6) ["tape"] (spM K celT tc0 (fun tp x => m_law_box tp) (cTup (tcC (cTup (tcC cInt (tc1 cInt))) (tcC (cTup (tcC cInt (tc1 cInt))) (tcC (cTup (tcC cInt (tc1 cInt))) (tc1 (cTup (tcC cInt (tc1 cInt)))))))))) (F__law_pick : ∀ {Aa : Type} (ca : Cod K Aa), FnP P w K mg base "_law_pick" (2) ["tape", "menu"] (spM K celT (tc1 (cLst ca)) (fun tp x => m_law_pick tp x) ca)) : FnP P w K mg base "_law_part_of_asking" 7 ["tape", "place", "p"] (spM K celT (tcC cInt (tc1 cU)) (fun tp x => m_law_part_of_asking tp x.1 x.2) cU) := by
  refine fnp_of hm F (fn_topL F S__law_part_of_asking (penC pen1) (fun tp x => [.lp, .im cInt x.1, .im cU x.2, .no, .no, .ln celT tp]) fun cdv A outer s H E hr C hB tp x => ?_) (fun _ _ _ _ _ _ us hl => match us, hl with | [_, _, _], _ => rfl)
  obtain ⟨a_place, a_p⟩ := x
  show GK _ C _ _ (m_law_part_of_asking tp a_place a_p) _
  unfold m_law_part_of_asking
  exact (gk_cons (gs_ifR (et_cmp o_eq (ex_var 1 (ex_int (⟨_, _, rfl, gk_one (gs_retL 5 (ex_u (ex_callL 0 5 F__law_two_integers (hr.mono (by decide)) (ea_nil (⟨_, rfl, rfl, _, rfl, fun v1 => by exact ⟨_, rfl, rfl⟩⟩))))), gk_cons (gs_ifR (et_cmp o_eq (ex_var 1 (ex_int (⟨_, _, rfl, gk_one (gs_retL 5 (ex_u (ex_callL 0 5 F__law_any (hr.mono (by decide)) (ea_nil (⟨_, rfl, rfl, _, rfl, fun v2 => by exact ⟨_, rfl, rfl⟩⟩))))), gk_cons (gs_ifR (et_cmp o_eq (ex_var 1 (ex_int (⟨_, _, rfl, gk_one (gs_retL 5 (ex_u (ex_callL 0 5 F__law_beside (hr.mono (by decide)) (ea_one (ex_dec (decT (decRC decI (decR1 decI))) (ex_var 2 (⟨_, rfl, fun v3 => ⟨_, rfl, rfl, _, rfl, fun v4 => by exact ⟨_, rfl, rfl⟩⟩⟩))))))), gk_cons (gs_ifR (et_cmp o_eq (ex_var 1 (ex_int (⟨_, _, rfl, gk_cons (gs_set 3 (ex_if (fun (z8 : Int × Tape) => z8.1) (fun (z8 : Int × Tape) => [.lp, .im cInt a_place, .im cU a_p, .no, .no, .ln celT z8.2]) (et_cmp o_eq (ex_callL 0 5 F__law_draw (hr.mono (by decide)) (ea_one (ex_int (⟨_, rfl, rfl, _, rfl, fun v5 => ex_int (⟨_, _, _, rfl, ex_int (fin (s := ((24 : Int), v5.2)) wk_refl), ex_callL 0 5 F__law_draw (hr.mono (by decide)) (ea_one (ex_int (⟨_, rfl, rfl, _, rfl, fun v6 => fin (s := (v6.1, v6.2)) wk_refl⟩))), fun c7 => gk_one (gs_retL 5 (ex_u (ex_callTT b_tupL T.tuple_ bt_tuple (ea_one (ex_froz (ef_lc rfl S__law_part_of_asking.nd (lc_mapS (ws := [4]) (up := fun Γ (x : Int) => (Γ.set 4 (.im cInt x))) (blkOk_by (own := [("k", 4)]) (by kernel_rfl)) (fun C' sh H Cc cl fp => (ag_name 4 S__law_part_of_asking.nd)) (ei_rng1 T.range_ (ex_var 3 (⟨_, rfl, fun v9 => ⟨(fun (s11 : Tape) => [.lp, .im cInt a_place, .im cU a_p, .im cInt c7.1, .no, .ln celT s11]), _, _, _, rfl, wk_drops [4], fun _ => rfl, fun ys13 => by exact ⟨_, rfl, rfl⟩, fun C' sh H Cc cl fp x10 s11 => ex_callL 0 5 F__law_any (hr.mono (by decide)) (ea_nil (⟨_, rfl, rfl, _, rfl, fun v12 => ⟨_, rfl, wk_drops [4]⟩⟩))⟩⟩))))))))))⟩)⟩)))))) S__law_part_of_asking.nd), gk_cons (gs_ifR (et_cmp o_eq (ex_var 1 (ex_int (⟨_, _, rfl, gk_cons (gs_set 3 (ex_if (fun (z17 : Int × Tape) => z17.1) (fun (z17 : Int × Tape) => [.lp, .im cInt a_place, .im cU a_p, .no, .no, .ln celT z17.2]) (et_cmp o_eq (ex_callL 0 5 F__law_draw (hr.mono (by decide)) (ea_one (ex_int (⟨_, rfl, rfl, _, rfl, fun v14 => ex_int (⟨_, _, _, rfl, ex_int (fin (s := ((6 : Int), v14.2)) wk_refl), ex_op2T o_add (ex_int (ex_callL 0 5 F__law_draw (hr.mono (by decide)) (ea_one (ex_int (⟨_, rfl, rfl, _, rfl, fun v15 => fin (s := (((1 : Int) + v15.1), v15.2)) wk_refl⟩))))), fun c16 => gk_one (gs_retL 5 (ex_u (ex_callTT b_tupL T.tuple_ bt_tuple (ea_one (ex_froz (ef_lc rfl S__law_part_of_asking.nd (lc_mapS (ws := [4]) (up := fun Γ (x : Int) => (Γ.set 4 (.im cInt x))) (blkOk_by (own := [("k", 4)]) (by kernel_rfl)) (fun C' sh H Cc cl fp => (ag_name 4 S__law_part_of_asking.nd)) (ei_rng1 T.range_ (ex_var 3 (⟨_, rfl, fun v18 => ⟨(fun (s20 : Tape) => [.lp, .im cInt a_place, .im cU a_p, .im cInt c16.1, .no, .ln celT s20]), _, _, _, rfl, wk_drops [4], fun _ => rfl, fun ys22 => by exact ⟨_, rfl, rfl⟩, fun C' sh H Cc cl fp x19 s20 => ex_callL 0 5 F__law_box (hr.mono (by decide)) (ea_nil (⟨_, rfl, rfl, _, rfl, fun v21 => ⟨_, rfl, wk_drops [4]⟩⟩))⟩⟩))))))))))⟩)⟩)))))) S__law_part_of_asking.nd), gk_one (gs_retL 5 (ex_u (ex_callL 0 5 (F__law_pick cStr) (hr.mono (by decide)) (ea_one (ex_froz (ef_lst (el_cons (ex_str (el_cons (ex_str (el_cons (ex_str (el_cons (ex_str (el_cons (ex_str (el_cons (ex_str (el_nil (⟨_, rfl, rfl, _, rfl, fun v23 => by exact ⟨_, rfl, rfl⟩⟩))))))))))))))))))))⟩)))))⟩)))))⟩)))))⟩)))))⟩))))))
def m_law_asking (tp : Tape) : Option ((List U) × Tape) :=
 m_law_part_of_asking tp (0 : Int) (uNon ()) >>= fun v1 =>
 m_law_part_of_asking v1.2 (1 : Int) (uNon ()) >>= fun v2 =>
 lt ([v1.1, v2.1]) fun ask_3 =>
 rng2 (2 : Int) (6 : Int) >>= fun v4 =>
 forS v4 (ask_3, v2.2) (fun x6 (s5 : ((List U) × Tape)) => atI s5.1 (1 : Int) >>= fun v7 =>
 m_law_part_of_asking s5.2 x6 v7 >>= fun v8 =>
 catR s5.1 ([v8.1]) >>= fun v9 =>
 some (v9, v8.2)) >>= fun s5 =>
 some (s5.1, s5.2)
abbrev st__law_asking : Stmt := top 35
theorem S__law_asking : FnScope ["tape", "ask", "place"] ["tape"] (defScope st__law_asking) := ⟨rfl, rfl, rfl, by decide +kernel, rfl, by decide +kernel, by decide +kernel⟩
theorem ok__law_asking {fa : Addr} {fd : FuncData} (T : Txt K mg) (F : FunD K "_law_asking" "_law_asking" (defArgs st__law_asking) (defBody st__law_asking) (defScope st__law_asking) [] [] fa fd) (hm : mg "_law_asking" = some (.ref fa)) (F__law_part_of_asking : FnP P w K mg base "_law_part_of_asking" (7) ["tape", "place", "p"] (spM K celT (tcC cInt (tc1 cU)) (fun tp x => m_law_part_of_asking tp x.1 x.2) cU)) : FnP P w K mg base "_law_asking" 8 ["tape"] (spM K celT tc0 (fun tp x => m_law_asking tp) (cSeq cU)) := by
  refine fnp_of hm F (fn_topL F S__law_asking pen0 (fun tp x => [.lp, .no, .no, .ln celT tp]) fun cdv A outer s H E hr C hB tp x => ?_) (fun _ _ _ _ _ _ us hl => match us, hl with | [_], _ => rfl)
  show GK _ C _ _ (m_law_asking tp) _
  unfold m_law_asking
  exact (gk_cons (gs_let (c := (cSeq cU)) 1 (ex_tupS (el_cons (ex_callL 0 3 F__law_part_of_asking (hr.mono (by decide)) (ea_cons (ex_int (ea_one (ex_u (ex_none (⟨_, rfl, rfl, _, rfl, fun v1 => el_cons (ex_callL 0 3 F__law_part_of_asking (hr.mono (by decide)) (ea_cons (ex_int (ea_one (ex_u (ex_none (⟨_, rfl, rfl, _, rfl, fun v2 => el_nil (⟨_, rfl, fun ask_3 => gk_cons (gs_forS (c := cInt) (fun (s5 : ((List U) × Tape)) => [.lp, .im (cSeq cU) s5.1, .no, .ln celT s5.2]) rfl (ag_name 2 S__law_asking.nd) (ei_rng2 T.range_ (ea_cons (ex_int (ea_one (ex_int (⟨_, rfl, fun v4 => ⟨_, _, _, rfl, wk_refl, fun x6 s5 => gk_one (gs_set (c := (cSeq cU)) 1 (ex_op2 o_catS (ex_var 1 (ex_tupS (el_cons (ex_callL 0 3 F__law_part_of_asking (hr.mono (by decide)) (ea_cons (ex_var 2 (ea_one (ex_ixS (ex_var 1 (ex_int (⟨_, rfl, fun v7 => ⟨_, rfl, rfl, _, rfl, fun v8 => el_nil (⟨_, rfl, fun v9 => ⟨_, rfl, wk_drops [2]⟩⟩)⟩⟩)))))))))))) S__law_asking.nd), fun s5 => gk_one (gs_retL 3 (ex_var 1 (by exact ⟨_, rfl, rfl⟩)))⟩⟩)))))) .never)⟩)⟩)))))))⟩))))))))) S__law_asking.nd))
def m_law_side (a_box : ((Int × Int) × (Int × Int) × (Int × Int) × (Int × Int))) (a_mark : Str) : Option (Int × Int) :=
 cond (decide (a_mark = ("width" : Str))) (m_law_minus a_box.2.2.1 a_box.1 >>= fun v1 =>
 some v1) (cond (decide (a_mark = ("height" : Str))) (m_law_minus a_box.2.2.2 a_box.2.1 >>= fun v2 =>
 some v2) (idxR ([("west" : Str), ("south" : Str), ("east" : Str), ("north" : Str)]) a_mark >>= fun v3 =>
 atI ([a_box.1, a_box.2.1, a_box.2.2.1, a_box.2.2.2]) v3 >>= fun v4 =>
 some v4))
abbrev st__law_side : Stmt := top 36
theorem S__law_side : FnScope ["box", "mark"] ["box", "mark"] (defScope st__law_side) := ⟨rfl, rfl, rfl, by decide +kernel, rfl, by decide +kernel, by decide +kernel⟩
theorem ok__law_side {fa : Addr} {fd : FuncData} (T : Txt K mg) (F : FunD K "_law_side" "_law_side" (defArgs st__law_side) (defBody st__law_side) (defScope st__law_side) [] [] fa fd) (hm : mg "_law_side" = some (.ref fa)) (F__law_minus : FnP P w K mg base "_law_minus" (2) ["p", "q"] (spP K (tcC (cTup (tcC cInt (tc1 cInt))) (tc1 (cTup (tcC cInt (tc1 cInt))))) (fun x => m_law_minus x.1 x.2) (cTup (tcC cInt (tc1 cInt))))) : FnP P w K mg base "_law_side" 3 ["box", "mark"] (spP K (tcC (cTup (tcC (cTup (tcC cInt (tc1 cInt))) (tcC (cTup (tcC cInt (tc1 cInt))) (tcC (cTup (tcC cInt (tc1 cInt))) (tc1 (cTup (tcC cInt (tc1 cInt)))))))) (tc1 cStr)) (fun x => m_law_side x.1 x.2) (cTup (tcC cInt (tc1 cInt)))) := by
  refine fnp_of hm F (fn_top (fun _ => False) (fun _ h => h.elim) F S__law_side (penC pen1) (fun x => [.im (cTup (tcC (cTup (tcC cInt (tc1 cInt))) (tcC (cTup (tcC cInt (tc1 cInt))) (tcC (cTup (tcC cInt (tc1 cInt))) (tc1 (cTup (tcC cInt (tc1 cInt)))))))) x.1, .im cStr x.2]) fun cdv A outer s H E hr C hB x => ?_) (fun _ _ _ _ _ _ us hl => match us, hl with | [_, _], _ => rfl)
  obtain ⟨a_box, a_mark⟩ := x
  show GK _ C _ _ (m_law_side a_box a_mark) _
  unfold m_law_side
  exact (gk_cons (gs_ifR (et_cmp o_eqS (ex_var 1 (ex_str (⟨_, _, rfl, gk_one (gs_ret (ex_call F__law_minus (hr.mono (by decide)) (ea_cons (ex_ixT (i := 2) (nthS (nthS nthZ)) (ex_var 0 (ea_one (ex_ixT (i := 0) nthZ (ex_var 0 (⟨_, rfl, fun v1 => rfl⟩))))))))), gk_cons (gs_ifR (et_cmp o_eqS (ex_var 1 (ex_str (⟨_, _, rfl, gk_one (gs_ret (ex_call F__law_minus (hr.mono (by decide)) (ea_cons (ex_ixT (i := 3) (nthS (nthS (nthS nthL))) (ex_var 0 (ea_one (ex_ixT (i := 1) (nthS nthZ) (ex_var 0 (⟨_, rfl, fun v2 => rfl⟩))))))))), gk_one (gs_ret (ex_ixS (ex_tsq (tsqC (tsqC (tsqC tsq1))) (ex_var 0 (ex_idxL flatS (ex_froz (ef_lst (el_cons (ex_str (el_cons (ex_str (el_cons (ex_str (el_cons (ex_str (el_nil (ex_var 1 (⟨_, rfl, fun v3 => ⟨_, rfl, fun v4 => rfl⟩⟩))))))))))))))))))⟩)))))⟩))))))
def m_law_due (a_door : Int) (a_ask : (List U)) : Option U :=
 atI a_ask (1 : Int) >>= fun v1 =>
 atI a_ask (2 : Int) >>= fun v2 =>
 cond (decide (a_door = (0 : Int))) (atI a_ask (0 : Int) >>= fun v3 =>
 U.get v3 (0 : Int) >>= fun v4 =>
 dInt v4 >>= fun v5 =>
 atI a_ask (0 : Int) >>= fun v6 =>
 U.get v6 (1 : Int) >>= fun v7 =>
 dInt v7 >>= fun v8 =>
 m_law_low v5 v8 >>= fun v9 =>
 some ((uTup (uRC uInt (uR1 uInt))) v9)) (cond (decide (a_door = (1 : Int))) ((dTup (dRC dInt (dR1 dInt))) v1 >>= fun v10 =>
 (dTup (dRC dInt (dR1 dInt))) v2 >>= fun v11 =>
 m_law_plus v10 v11 >>= fun v12 =>
 some ((uTup (uRC uInt (uR1 uInt))) v12)) (cond (decide (a_door = (2 : Int))) ((dTup (dRC dInt (dR1 dInt))) v1 >>= fun v13 =>
 (dTup (dRC dInt (dR1 dInt))) v2 >>= fun v14 =>
 m_law_minus v13 v14 >>= fun v15 =>
 some ((uTup (uRC uInt (uR1 uInt))) v15)) (cond (decide (a_door = (3 : Int))) ((dTup (dRC dInt (dR1 dInt))) v1 >>= fun v16 =>
 (dTup (dRC dInt (dR1 dInt))) v2 >>= fun v17 =>
 m_law_times v16 v17 >>= fun v18 =>
 some ((uTup (uRC uInt (uR1 uInt))) v18)) (cond (decide (a_door = (4 : Int))) ((dTup (dRC dInt (dR1 dInt))) v1 >>= fun v19 =>
 U.get v2 (0 : Int) >>= fun v20 =>
 dInt v20 >>= fun v21 =>
 (cond (!decide (v21 = (0 : Int))) ((dTup (dRC dInt (dR1 dInt))) v2 >>= fun v22 =>
 some v22) (some ((-(1 : Int)), (3 : Int)))) >>= fun c23 =>
 m_law_over v19 c23 >>= fun v24 =>
 some ((uTup (uRC uInt (uR1 uInt))) v24)) (cond (decide (a_door = (5 : Int))) ((dTup (dRC dInt (dR1 dInt))) v1 >>= fun v25 =>
 (dTup (dRC dInt (dR1 dInt))) v2 >>= fun v26 =>
 m_law_less v25 v26 >>= fun v27 =>
 some (uBool v27)) (cond (decide (a_door = (6 : Int))) (atI a_ask (3 : Int) >>= fun v28 =>
 dSeq some v28 >>= fun v29 =>
 forS v29 (1 : Int) (fun x31 (s30 : Int) => U.get x31 (1 : Int) >>= fun v32 =>
 dInt v32 >>= fun v33 =>
 m_law_low s30 v33 >>= fun v34 =>
 mulR s30 v34.2 >>= fun v35 =>
 some v35) >>= fun s30 =>
 some (uInt s30)) (cond (decide (a_door = (7 : Int))) (atI a_ask (4 : Int) >>= fun v36 =>
 U.get v36 (-(1 : Int)) >>= fun v37 =>
 (dTup (dRC (dTup (dRC dInt (dR1 dInt))) (dRC (dTup (dRC dInt (dR1 dInt))) (dRC (dTup (dRC dInt (dR1 dInt))) (dR1 (dTup (dRC dInt (dR1 dInt)))))))) v37 >>= fun v38 =>
 atI a_ask (5 : Int) >>= fun v39 =>
 dStr v39 >>= fun v40 =>
 m_law_side v38 v40 >>= fun v41 =>
 some ((uTup (uRC uInt (uR1 uInt))) v41)) (atI a_ask (4 : Int) >>= fun v42 =>
 dSeq some v42 >>= fun v43 =>
 mapR (fun x44 => U.get x44 (0 : Int) >>= fun v45 =>
 (dTup (dRC dInt (dR1 dInt))) v45 >>= fun v46 =>
 U.get x44 (2 : Int) >>= fun v47 =>
 (dTup (dRC dInt (dR1 dInt))) v47 >>= fun v48 =>
 m_law_less v46 v48 >>= fun v49 =>
 (cond v49 (U.get x44 (1 : Int) >>= fun v50 =>
 (dTup (dRC dInt (dR1 dInt))) v50 >>= fun v51 =>
 U.get x44 (3 : Int) >>= fun v52 =>
 (dTup (dRC dInt (dR1 dInt))) v52 >>= fun v53 =>
 m_law_less v51 v53 >>= fun v54 =>
 some v54) (some false)) >>= fun c55 =>
 some c55) v43 >>= fun ys56 =>
 some (uBool (!decide (false ∈ ys56)))))))))))
abbrev st__law_due : Stmt := top 37
theorem S__law_due : FnScope ["door", "ask", "p", "q", "least", "each", "box"] ["door", "ask"] (defScope st__law_due) := ⟨rfl, rfl, rfl, by decide +kernel, rfl, by decide +kernel, by decide +kernel⟩
theorem ok__law_due {fa : Addr} {fd : FuncData} (T : Txt K mg) (F : FunD K "_law_due" "_law_due" (defArgs st__law_due) (defBody st__law_due) (defScope st__law_due) [] [] fa fd) (hm : mg "_law_due" = some (.ref fa)) (F__law_low : FnP P w K mg base "_law_low" (1) ["n", "d"] (spP K (tcC cInt (tc1 cInt)) (fun x => m_law_low x.1 x.2) (cTup (tcC cInt (tc1 cInt))))) (F__law_plus : FnP P w K mg base "_law_plus" (2) ["p", "q"] (spP K (tcC (cTup (tcC cInt (tc1 cInt))) (tc1 (cTup (tcC cInt (tc1 cInt))))) (fun x => m_law_plus x.1 x.2) (cTup (tcC cInt (tc1 cInt))))) (F__law_minus : FnP P w K mg base "_law_minus" (2) ["p", "q"] (spP K (tcC (cTup (tcC cInt (tc1 cInt))) (tc1 (cTup (tcC cInt (tc1 cInt))))) (fun x => m_law_minus x.1 x.2) (cTup (tcC cInt (tc1 cInt))))) (F__law_times : FnP P w K mg base "_law_times" (2) ["p", "q"] (spP K (tcC (cTup (tcC cInt (tc1 cInt))) (tc1 (cTup (tcC cInt (tc1 cInt))))) (fun x => m_law_times x.1 x.2) (cTup (tcC cInt (tc1 cInt))))) (F__law_over : FnP P w K mg base "_law_over" (2) ["p", "q"] (spP K (tcC (cTup (tcC cInt (tc1 cInt))) (tc1 (cTup (tcC cInt (tc1 cInt))))) (fun x => m_law_over x.1 x.2) (cTup (tcC cInt (tc1 cInt))))) (F__law_less : FnP P w K mg base "_law_less" (1) ["p", "q"] (spP K (tcC (cTup (tcC cInt (tc1 cInt))) (tc1 (cTup (tcC cInt (tc1 cInt))))) (fun x => m_law_less x.1 x.2) cBool)) (F__law_side : FnP P w K mg base "_law_side" (3) ["box", "mark"] (spP K (tcC (cTup (tcC (cTup (tcC cInt (tc1 cInt))) (tcC (cTup (tcC cInt (tc1 cInt))) (tcC (cTup (tcC cInt (tc1 cInt))) (tc1 (cTup (tcC cInt (tc1 cInt)))))))) (tc1 cStr)) (fun x => m_law_side x.1 x.2) (cTup (tcC cInt (tc1 cInt))))) : FnP P w K mg base "_law_due" 4 ["door", "ask"] (spP K (tcC cInt (tc1 (cSeq cU))) (fun x => m_law_due x.1 x.2) cU) := by
  refine fnp_of hm F (fn_top (fun _ => False) (fun _ h => h.elim) F S__law_due (penC pen1) (fun x => [.im cInt x.1, .im (cSeq cU) x.2, .no, .no, .no, .no, .no]) fun cdv A outer s H E hr C hB x => ?_) (fun _ _ _ _ _ _ us hl => match us, hl with | [_, _], _ => rfl)
  obtain ⟨a_door, a_ask⟩ := x
  show GK _ C _ _ (m_law_due a_door a_ask) _
  unfold m_law_due
  exact (gk_cons (gs_set 2 (ex_ixS (ex_var 1 (ex_int (⟨_, rfl, fun v1 => gk_cons (gs_set 3 (ex_ixS (ex_var 1 (ex_int (⟨_, rfl, fun v2 => gk_cons (gs_ifR (et_cmp o_eq (ex_var 0 (ex_int (⟨_, _, rfl, gk_one (gs_ret (ex_u (ex_call F__law_low (hr.mono (by decide)) (ea_cons (ex_dec decI (ex_ixU (ex_ixS (ex_var 1 (ex_int (⟨_, rfl, fun v3 => ex_int (⟨_, rfl, fun v4 => ⟨_, rfl, fun v5 => ea_one (ex_dec decI (ex_ixU (ex_ixS (ex_var 1 (ex_int (⟨_, rfl, fun v6 => ex_int (⟨_, rfl, fun v7 => ⟨_, rfl, fun v8 => ⟨_, rfl, fun v9 => rfl⟩⟩⟩)⟩))))))⟩⟩)⟩)))))))))), gk_cons (gs_ifR (et_cmp o_eq (ex_var 0 (ex_int (⟨_, _, rfl, gk_one (gs_ret (ex_u (ex_call F__law_plus (hr.mono (by decide)) (ea_cons (ex_dec (decT (decRC decI (decR1 decI))) (ex_var 2 (⟨_, rfl, fun v10 => ea_one (ex_dec (decT (decRC decI (decR1 decI))) (ex_var 3 (⟨_, rfl, fun v11 => ⟨_, rfl, fun v12 => rfl⟩⟩)))⟩))))))), gk_cons (gs_ifR (et_cmp o_eq (ex_var 0 (ex_int (⟨_, _, rfl, gk_one (gs_ret (ex_u (ex_call F__law_minus (hr.mono (by decide)) (ea_cons (ex_dec (decT (decRC decI (decR1 decI))) (ex_var 2 (⟨_, rfl, fun v13 => ea_one (ex_dec (decT (decRC decI (decR1 decI))) (ex_var 3 (⟨_, rfl, fun v14 => ⟨_, rfl, fun v15 => rfl⟩⟩)))⟩))))))), gk_cons (gs_ifR (et_cmp o_eq (ex_var 0 (ex_int (⟨_, _, rfl, gk_one (gs_ret (ex_u (ex_call F__law_times (hr.mono (by decide)) (ea_cons (ex_dec (decT (decRC decI (decR1 decI))) (ex_var 2 (⟨_, rfl, fun v16 => ea_one (ex_dec (decT (decRC decI (decR1 decI))) (ex_var 3 (⟨_, rfl, fun v17 => ⟨_, rfl, fun v18 => rfl⟩⟩)))⟩))))))), gk_cons (gs_ifR (et_cmp o_eq (ex_var 0 (ex_int (⟨_, _, rfl, gk_one (gs_ret (ex_u (ex_call F__law_over (hr.mono (by decide)) (ea_cons (ex_dec (decT (decRC decI (decR1 decI))) (ex_var 2 (⟨_, rfl, fun v19 => ea_one (ex_if (fun (c : (Int × Int)) => c) (fun _ => [.im cInt a_door, .im (cSeq cU) a_ask, .im cU v1, .im cU v2, .no, .no, .no]) (et_cmp o_ne (ex_dec decI (ex_ixU (ex_var 3 (ex_int (⟨_, rfl, fun v20 => ⟨_, rfl, fun v21 => ex_int (⟨_, _, _, rfl, ex_dec (decT (decRC decI (decR1 decI))) (ex_var 3 (⟨_, rfl, fun v22 => fin wk_refl⟩)), ex_tup (ea_cons (ex_neg (ex_int (ea_one (ex_int (fin wk_refl)))))), fun c23 => ⟨_, rfl, fun v24 => rfl⟩⟩)⟩⟩)))))))⟩))))))), gk_cons (gs_ifR (et_cmp o_eq (ex_var 0 (ex_int (⟨_, _, rfl, gk_one (gs_ret (ex_u (ex_call F__law_less (hr.mono (by decide)) (ea_cons (ex_dec (decT (decRC decI (decR1 decI))) (ex_var 2 (⟨_, rfl, fun v25 => ea_one (ex_dec (decT (decRC decI (decR1 decI))) (ex_var 3 (⟨_, rfl, fun v26 => ⟨_, rfl, fun v27 => rfl⟩⟩)))⟩))))))), gk_cons (gs_ifR (et_cmp o_eq (ex_var 0 (ex_int (⟨_, _, rfl, gk_cons (gs_set 4 (ex_int (gk_cons (gs_forS (c := cU) (fun (s30 : Int) => [.im cInt a_door, .im (cSeq cU) a_ask, .im cU v1, .im cU v2, .im cInt s30, .no, .no]) rfl (ag_name 5 S__law_due.nd) (ei_U (ex_ixS (ex_var 1 (ex_int (⟨_, rfl, fun v28 => ⟨_, rfl, fun v29 => ⟨_, _, _, rfl, wk_refl, fun x31 s30 => gk_one (gs_set 4 (ex_op2 o_mul (ex_var 4 (ex_ixT (i := 1) (nthS nthL) (ex_call F__law_low (hr.mono (by decide)) (ea_cons (ex_var 4 (ea_one (ex_dec decI (ex_ixU (ex_var 5 (ex_int (⟨_, rfl, fun v32 => ⟨_, rfl, fun v33 => ⟨_, rfl, fun v34 => ⟨_, rfl, fun v35 => ⟨_, rfl, wk_drops [5]⟩⟩⟩⟩⟩)))))))))))) S__law_due.nd), fun s30 => gk_one (gs_ret (ex_u (ex_var 4 (rfl))))⟩⟩⟩))))) .never))) S__law_due.nd), gk_cons (gs_ifR (et_cmp o_eq (ex_var 0 (ex_int (⟨_, _, rfl, gk_one (gs_ret (ex_u (ex_call F__law_side (hr.mono (by decide)) (ea_cons (ex_dec (decT (decRC (decT (decRC decI (decR1 decI))) (decRC (decT (decRC decI (decR1 decI))) (decRC (decT (decRC decI (decR1 decI))) (decR1 (decT (decRC decI (decR1 decI)))))))) (ex_ixU (ex_ixS (ex_var 1 (ex_int (⟨_, rfl, fun v36 => ex_neg (ex_int (⟨_, rfl, fun v37 => ⟨_, rfl, fun v38 => ea_one (ex_dec decS (ex_ixS (ex_var 1 (ex_int (⟨_, rfl, fun v39 => ⟨_, rfl, fun v40 => ⟨_, rfl, fun v41 => rfl⟩⟩⟩)))))⟩⟩))⟩)))))))))), gk_one (gs_ret (ex_u (ex_cmp (o_niL flatB) (ex_bl (ex_froz (ef_lc rfl S__law_due.nd (lc_map (ws := [6]) (up := fun Γ (x : U) => (Γ.set 6 (.im cU x))) (blkOk_by (own := [("box", 6)]) (by kernel_rfl)) (fun C' sh H Cc cl fp => (ag_name 6 S__law_due.nd)) (ei_U (ex_ixS (ex_var 1 (ex_int (⟨_, rfl, fun v42 => ⟨_, rfl, fun v43 => ⟨_, _, rfl, fun ys56 => rfl, fun C' sh H Cc cl fp x44 => ex_and (fun (c : Bool) => c) (fun _ => [.im cInt a_door, .im (cSeq cU) a_ask, .im cU v1, .im cU v2, .no, .no, .im cU x44]) (ex_call F__law_less (hr.mono (by decide)) (ea_cons (ex_dec (decT (decRC decI (decR1 decI))) (ex_ixU (ex_var 6 (ex_int (⟨_, rfl, fun v45 => ⟨_, rfl, fun v46 => ea_one (ex_dec (decT (decRC decI (decR1 decI))) (ex_ixU (ex_var 6 (ex_int (⟨_, rfl, fun v47 => ⟨_, rfl, fun v48 => ⟨_, rfl, fun v49 => ⟨_, false, _, rfl, rfl, wk_refl, ex_one (ex_call F__law_less (hr.mono (by decide)) (ea_cons (ex_dec (decT (decRC decI (decR1 decI))) (ex_ixU (ex_var 6 (ex_int (⟨_, rfl, fun v50 => ⟨_, rfl, fun v51 => ea_one (ex_dec (decT (decRC decI (decR1 decI))) (ex_ixU (ex_var 6 (ex_int (⟨_, rfl, fun v52 => ⟨_, rfl, fun v53 => ⟨_, rfl, fun v54 => fin wk_refl⟩⟩⟩)))))⟩⟩))))))), fun c55 => ⟨rfl, wk_refl⟩⟩⟩⟩⟩)))))⟩⟩)))))))⟩⟩⟩))))))))))))⟩)))))⟩)))))⟩)))))⟩)))))⟩)))))⟩)))))⟩)))))⟩)))))⟩)))) S__law_due.nd)⟩)))) S__law_due.nd))
def m_law_told (a_door : Int) (a_ask : (List U)) : Option U :=
 cond (decide (a_door = (0 : Int))) (atI a_ask (0 : Int) >>= fun v1 =>
 U.get v1 (0 : Int) >>= fun v2 =>
 dInt v2 >>= fun v3 =>
 atI a_ask (0 : Int) >>= fun v4 =>
 U.get v4 (1 : Int) >>= fun v5 =>
 dInt v5 >>= fun v6 =>
 m_lowest v3 v6 >>= fun v7 =>
 some ((uTup (uRC uInt (uR1 uInt))) v7)) (cond (decide (a_door = (1 : Int))) (atI a_ask (1 : Int) >>= fun v8 =>
 (dTup (dRC dInt (dR1 dInt))) v8 >>= fun v9 =>
 atI a_ask (2 : Int) >>= fun v10 =>
 (dTup (dRC dInt (dR1 dInt))) v10 >>= fun v11 =>
 m_plus v9 v11 >>= fun v12 =>
 some ((uTup (uRC uInt (uR1 uInt))) v12)) (cond (decide (a_door = (2 : Int))) (atI a_ask (1 : Int) >>= fun v13 =>
 (dTup (dRC dInt (dR1 dInt))) v13 >>= fun v14 =>
 atI a_ask (2 : Int) >>= fun v15 =>
 (dTup (dRC dInt (dR1 dInt))) v15 >>= fun v16 =>
 m_minus v14 v16 >>= fun v17 =>
 some ((uTup (uRC uInt (uR1 uInt))) v17)) (cond (decide (a_door = (3 : Int))) (atI a_ask (1 : Int) >>= fun v18 =>
 (dTup (dRC dInt (dR1 dInt))) v18 >>= fun v19 =>
 atI a_ask (2 : Int) >>= fun v20 =>
 (dTup (dRC dInt (dR1 dInt))) v20 >>= fun v21 =>
 m_times v19 v21 >>= fun v22 =>
 some ((uTup (uRC uInt (uR1 uInt))) v22)) (cond (decide (a_door = (4 : Int))) (atI a_ask (1 : Int) >>= fun v23 =>
 (dTup (dRC dInt (dR1 dInt))) v23 >>= fun v24 =>
 atI a_ask (2 : Int) >>= fun v25 =>
 U.get v25 (0 : Int) >>= fun v26 =>
 dInt v26 >>= fun v27 =>
 (cond (!decide (v27 = (0 : Int))) (atI a_ask (2 : Int) >>= fun v28 =>
 (dTup (dRC dInt (dR1 dInt))) v28 >>= fun v29 =>
 some v29) (some ((-(1 : Int)), (3 : Int)))) >>= fun c30 =>
 m_over v24 c30 >>= fun v31 =>
 some ((uTup (uRC uInt (uR1 uInt))) v31)) (cond (decide (a_door = (5 : Int))) (atI a_ask (1 : Int) >>= fun v32 =>
 (dTup (dRC dInt (dR1 dInt))) v32 >>= fun v33 =>
 atI a_ask (2 : Int) >>= fun v34 =>
 (dTup (dRC dInt (dR1 dInt))) v34 >>= fun v35 =>
 m_is_less v33 v35 >>= fun v36 =>
 some (uBool v36)) (cond (decide (a_door = (6 : Int))) (atI a_ask (3 : Int) >>= fun v37 =>
 (dSeq (dTup (dRC dInt (dR1 dInt)))) v37 >>= fun v38 =>
 m_common v38 >>= fun v39 =>
 some (uInt v39)) (cond (decide (a_door = (7 : Int))) (atI a_ask (4 : Int) >>= fun v40 =>
 U.get v40 (-(1 : Int)) >>= fun v41 =>
 (dTup (dRC (dTup (dRC dInt (dR1 dInt))) (dRC (dTup (dRC dInt (dR1 dInt))) (dRC (dTup (dRC dInt (dR1 dInt))) (dR1 (dTup (dRC dInt (dR1 dInt)))))))) v41 >>= fun v42 =>
 atI a_ask (5 : Int) >>= fun v43 =>
 dStr v43 >>= fun v44 =>
 m_mark_of v42 v44 >>= fun v45 =>
 some ((uTup (uRC uInt (uR1 uInt))) v45)) (atI a_ask (4 : Int) >>= fun v46 =>
 (dSeq (dTup (dRC (dTup (dRC dInt (dR1 dInt))) (dRC (dTup (dRC dInt (dR1 dInt))) (dRC (dTup (dRC dInt (dR1 dInt))) (dR1 (dTup (dRC dInt (dR1 dInt))))))))) v46 >>= fun v47 =>
 m_is_wide v47 >>= fun v48 =>
 some (uBool v48)))))))))
abbrev st__law_told : Stmt := top 38
theorem S__law_told : FnScope ["door", "ask"] ["door", "ask"] (defScope st__law_told) := ⟨rfl, rfl, rfl, by decide +kernel, rfl, by decide +kernel, by decide +kernel⟩
theorem ok__law_told {fa : Addr} {fd : FuncData} (T : Txt K mg) (F : FunD K "_law_told" "_law_told" (defArgs st__law_told) (defBody st__law_told) (defScope st__law_told) [] [] fa fd) (hm : mg "_law_told" = some (.ref fa)) (F_lowest : FnP P w K mg base "lowest" (1) ["n", "d"] (spP K (tcC cInt (tc1 cInt)) (fun x => m_lowest x.1 x.2) (cTup (tcC cInt (tc1 cInt))))) (F_plus : FnP P w K mg base "plus" (2) ["p", "q"] (spP K (tcC (cTup (tcC cInt (tc1 cInt))) (tc1 (cTup (tcC cInt (tc1 cInt))))) (fun x => m_plus x.1 x.2) (cTup (tcC cInt (tc1 cInt))))) (F_minus : FnP P w K mg base "minus" (2) ["p", "q"] (spP K (tcC (cTup (tcC cInt (tc1 cInt))) (tc1 (cTup (tcC cInt (tc1 cInt))))) (fun x => m_minus x.1 x.2) (cTup (tcC cInt (tc1 cInt))))) (F_times : FnP P w K mg base "times" (2) ["p", "q"] (spP K (tcC (cTup (tcC cInt (tc1 cInt))) (tc1 (cTup (tcC cInt (tc1 cInt))))) (fun x => m_times x.1 x.2) (cTup (tcC cInt (tc1 cInt))))) (F_over : FnP P w K mg base "over" (2) ["p", "q"] (spP K (tcC (cTup (tcC cInt (tc1 cInt))) (tc1 (cTup (tcC cInt (tc1 cInt))))) (fun x => m_over x.1 x.2) (cTup (tcC cInt (tc1 cInt))))) (F_is_less : FnP P w K mg base "is_less" (1) ["p", "q"] (spP K (tcC (cTup (tcC cInt (tc1 cInt))) (tc1 (cTup (tcC cInt (tc1 cInt))))) (fun x => m_is_less x.1 x.2) cBool)) (F_common : FnP P w K mg base "common" (1) ["fractions"] (spP K (tc1 (cSeq (cTup (tcC cInt (tc1 cInt))))) (fun x => m_common x) cInt)) (F_mark_of : FnP P w K mg base "mark_of" (3) ["box", "mark"] (spP K (tcC (cTup (tcC (cTup (tcC cInt (tc1 cInt))) (tcC (cTup (tcC cInt (tc1 cInt))) (tcC (cTup (tcC cInt (tc1 cInt))) (tc1 (cTup (tcC cInt (tc1 cInt)))))))) (tc1 cStr)) (fun x => m_mark_of x.1 x.2) (cTup (tcC cInt (tc1 cInt))))) (F_is_wide : FnP P w K mg base "is_wide" (3) ["region"] (spP K (tc1 (cSeq (cTup (tcC (cTup (tcC cInt (tc1 cInt))) (tcC (cTup (tcC cInt (tc1 cInt))) (tcC (cTup (tcC cInt (tc1 cInt))) (tc1 (cTup (tcC cInt (tc1 cInt)))))))))) (fun x => m_is_wide x) cBool)) : FnP P w K mg base "_law_told" 4 ["door", "ask"] (spP K (tcC cInt (tc1 (cSeq cU))) (fun x => m_law_told x.1 x.2) cU) := by
  refine fnp_of hm F (fn_top (fun _ => False) (fun _ h => h.elim) F S__law_told (penC pen1) (fun x => [.im cInt x.1, .im (cSeq cU) x.2]) fun cdv A outer s H E hr C hB x => ?_) (fun _ _ _ _ _ _ us hl => match us, hl with | [_, _], _ => rfl)
  obtain ⟨a_door, a_ask⟩ := x
  show GK _ C _ _ (m_law_told a_door a_ask) _
  unfold m_law_told
  exact (gk_cons (gs_ifR (et_cmp o_eq (ex_var 0 (ex_int (⟨_, _, rfl, gk_one (gs_ret (ex_u (ex_call F_lowest (hr.mono (by decide)) (ea_cons (ex_dec decI (ex_ixU (ex_ixS (ex_var 1 (ex_int (⟨_, rfl, fun v1 => ex_int (⟨_, rfl, fun v2 => ⟨_, rfl, fun v3 => ea_one (ex_dec decI (ex_ixU (ex_ixS (ex_var 1 (ex_int (⟨_, rfl, fun v4 => ex_int (⟨_, rfl, fun v5 => ⟨_, rfl, fun v6 => ⟨_, rfl, fun v7 => rfl⟩⟩⟩)⟩))))))⟩⟩)⟩)))))))))), gk_cons (gs_ifR (et_cmp o_eq (ex_var 0 (ex_int (⟨_, _, rfl, gk_one (gs_ret (ex_u (ex_call F_plus (hr.mono (by decide)) (ea_cons (ex_dec (decT (decRC decI (decR1 decI))) (ex_ixS (ex_var 1 (ex_int (⟨_, rfl, fun v8 => ⟨_, rfl, fun v9 => ea_one (ex_dec (decT (decRC decI (decR1 decI))) (ex_ixS (ex_var 1 (ex_int (⟨_, rfl, fun v10 => ⟨_, rfl, fun v11 => ⟨_, rfl, fun v12 => rfl⟩⟩⟩)))))⟩⟩))))))))), gk_cons (gs_ifR (et_cmp o_eq (ex_var 0 (ex_int (⟨_, _, rfl, gk_one (gs_ret (ex_u (ex_call F_minus (hr.mono (by decide)) (ea_cons (ex_dec (decT (decRC decI (decR1 decI))) (ex_ixS (ex_var 1 (ex_int (⟨_, rfl, fun v13 => ⟨_, rfl, fun v14 => ea_one (ex_dec (decT (decRC decI (decR1 decI))) (ex_ixS (ex_var 1 (ex_int (⟨_, rfl, fun v15 => ⟨_, rfl, fun v16 => ⟨_, rfl, fun v17 => rfl⟩⟩⟩)))))⟩⟩))))))))), gk_cons (gs_ifR (et_cmp o_eq (ex_var 0 (ex_int (⟨_, _, rfl, gk_one (gs_ret (ex_u (ex_call F_times (hr.mono (by decide)) (ea_cons (ex_dec (decT (decRC decI (decR1 decI))) (ex_ixS (ex_var 1 (ex_int (⟨_, rfl, fun v18 => ⟨_, rfl, fun v19 => ea_one (ex_dec (decT (decRC decI (decR1 decI))) (ex_ixS (ex_var 1 (ex_int (⟨_, rfl, fun v20 => ⟨_, rfl, fun v21 => ⟨_, rfl, fun v22 => rfl⟩⟩⟩)))))⟩⟩))))))))), gk_cons (gs_ifR (et_cmp o_eq (ex_var 0 (ex_int (⟨_, _, rfl, gk_one (gs_ret (ex_u (ex_call F_over (hr.mono (by decide)) (ea_cons (ex_dec (decT (decRC decI (decR1 decI))) (ex_ixS (ex_var 1 (ex_int (⟨_, rfl, fun v23 => ⟨_, rfl, fun v24 => ea_one (ex_if (fun (c : (Int × Int)) => c) (fun _ => [.im cInt a_door, .im (cSeq cU) a_ask]) (et_cmp o_ne (ex_dec decI (ex_ixU (ex_ixS (ex_var 1 (ex_int (⟨_, rfl, fun v25 => ex_int (⟨_, rfl, fun v26 => ⟨_, rfl, fun v27 => ex_int (⟨_, _, _, rfl, ex_dec (decT (decRC decI (decR1 decI))) (ex_ixS (ex_var 1 (ex_int (⟨_, rfl, fun v28 => ⟨_, rfl, fun v29 => fin wk_refl⟩⟩)))), ex_tup (ea_cons (ex_neg (ex_int (ea_one (ex_int (fin wk_refl)))))), fun c30 => ⟨_, rfl, fun v31 => rfl⟩⟩)⟩⟩)⟩))))))))⟩⟩))))))))), gk_cons (gs_ifR (et_cmp o_eq (ex_var 0 (ex_int (⟨_, _, rfl, gk_one (gs_ret (ex_u (ex_call F_is_less (hr.mono (by decide)) (ea_cons (ex_dec (decT (decRC decI (decR1 decI))) (ex_ixS (ex_var 1 (ex_int (⟨_, rfl, fun v32 => ⟨_, rfl, fun v33 => ea_one (ex_dec (decT (decRC decI (decR1 decI))) (ex_ixS (ex_var 1 (ex_int (⟨_, rfl, fun v34 => ⟨_, rfl, fun v35 => ⟨_, rfl, fun v36 => rfl⟩⟩⟩)))))⟩⟩))))))))), gk_cons (gs_ifR (et_cmp o_eq (ex_var 0 (ex_int (⟨_, _, rfl, gk_one (gs_ret (ex_u (ex_call F_common (hr.mono (by decide)) (ea_one (ex_dec (decQ (decT (decRC decI (decR1 decI)))) (ex_ixS (ex_var 1 (ex_int (⟨_, rfl, fun v37 => ⟨_, rfl, fun v38 => ⟨_, rfl, fun v39 => rfl⟩⟩⟩))))))))), gk_cons (gs_ifR (et_cmp o_eq (ex_var 0 (ex_int (⟨_, _, rfl, gk_one (gs_ret (ex_u (ex_call F_mark_of (hr.mono (by decide)) (ea_cons (ex_dec (decT (decRC (decT (decRC decI (decR1 decI))) (decRC (decT (decRC decI (decR1 decI))) (decRC (decT (decRC decI (decR1 decI))) (decR1 (decT (decRC decI (decR1 decI)))))))) (ex_ixU (ex_ixS (ex_var 1 (ex_int (⟨_, rfl, fun v40 => ex_neg (ex_int (⟨_, rfl, fun v41 => ⟨_, rfl, fun v42 => ea_one (ex_dec decS (ex_ixS (ex_var 1 (ex_int (⟨_, rfl, fun v43 => ⟨_, rfl, fun v44 => ⟨_, rfl, fun v45 => rfl⟩⟩⟩)))))⟩⟩))⟩)))))))))), gk_one (gs_ret (ex_u (ex_call F_is_wide (hr.mono (by decide)) (ea_one (ex_dec (decQ (decT (decRC (decT (decRC decI (decR1 decI))) (decRC (decT (decRC decI (decR1 decI))) (decRC (decT (decRC decI (decR1 decI))) (decR1 (decT (decRC decI (decR1 decI))))))))) (ex_ixS (ex_var 1 (ex_int (⟨_, rfl, fun v46 => ⟨_, rfl, fun v47 => ⟨_, rfl, fun v48 => rfl⟩⟩⟩)))))))))⟩)))))⟩)))))⟩)))))⟩)))))⟩)))))⟩)))))⟩)))))⟩))))))
def m_law (a_script : (List Int)) : Option Bool :=
 m_law_tape a_script >>= fun v1 =>
 m_law_asking v1 >>= fun v2 =>
 m_law_draw v2.2 (6 : Int) >>= fun v3 =>
 atI v2.1 (1 : Int) >>= fun v4 =>
 m_law_part_of_asking v3.2 v3.1 v4 >>= fun v5 =>
 m_law_put v2.1 v3.1 v5.1 >>= fun v6 =>
 m_law_turns v5.2 (9 : Int) >>= fun v7 =>
 (forF v7.1 v7.2 (fun x9 (s8 : Tape) => (forF ([v2.1, v6, v2.1]) () (fun x11 (s10 : Unit) => m_law_told x9 x11 >>= fun v12 =>
 m_law_due x9 x11 >>= fun v13 =>
 m_law_same 6 v12 v13 >>= fun v14 =>
 cond (!v14) (some (.rt false)) (some (.nx ()))) : Option (Fl Unit Bool)) >>= (fun o => match o with
 | .nx s10 => some (.nx s8)
 | .rt x => some (.rt x)
 | .bk _ => none
 | .ct _ => none)) : Option (Fl Tape Bool)) >>= (fun o => match o with
 | .nx s8 => some true
 | .rt x => some x
 | .bk _ => none
 | .ct _ => none)
abbrev st_law : Stmt := top 39
theorem S_law : FnScope ["script", "tape", "first", "at", "second", "door", "ask"] ["script"] (defScope st_law) := ⟨rfl, rfl, rfl, by decide +kernel, rfl, by decide +kernel, by decide +kernel⟩
theorem ok_law {fa : Addr} {fd : FuncData} (T : Txt K mg) (F : FunD K "law" "law" (defArgs st_law) (defBody st_law) (defScope st_law) [] [] fa fd) (F__law_tape : FnP P w K mg base "_law_tape" (1) ["script"] (spN K (tc1 cScr) (fun x => m_law_tape x) celT)) (F__law_asking : FnP P w K mg base "_law_asking" (8) ["tape"] (spM K celT tc0 (fun tp x => m_law_asking tp) (cSeq cU))) (F__law_draw : FnP P w K mg base "_law_draw" (1) ["tape", "many"] (spM K celT (tc1 cInt) (fun tp x => m_law_draw tp x) cInt)) (F__law_put : FnP P w K mg base "_law_put" (1) ["told", "place", "thing"] (spP K (tcC (cSeq cU) (tcC cInt (tc1 cU))) (fun x => m_law_put x.1 x.2.1 x.2.2) (cSeq cU))) (F__law_part_of_asking : FnP P w K mg base "_law_part_of_asking" (7) ["tape", "place", "p"] (spM K celT (tcC cInt (tc1 cU)) (fun tp x => m_law_part_of_asking tp x.1 x.2) cU)) (F__law_turns : FnP P w K mg base "_law_turns" (2) ["tape", "many"] (spMN K celT (tc1 cInt) (fun tp x => m_law_turns tp x) (lstC cInt))) (F__law_same : ∀ fuel : Nat, FnP P w K mg base "_law_same" (1 + fuel) ["told", "wanted"] (spP K (tcC cU (tc1 cU)) (fun x => m_law_same fuel x.1 x.2) cBool)) (F__law_told : FnP P w K mg base "_law_told" (4) ["door", "ask"] (spP K (tcC cInt (tc1 (cSeq cU))) (fun x => m_law_told x.1 x.2) cU)) (F__law_due : FnP P w K mg base "_law_due" (4) ["door", "ask"] (spP K (tcC cInt (tc1 (cSeq cU))) (fun x => m_law_due x.1 x.2) cU)) : FnOk P w K mg base CX0 9 fa fd ["script"] (spP K (tc1 cScr) (fun x => m_law x) cBool) := by
  refine (fn_top (fun _ => False) (fun _ h => h.elim) F S_law pen1 (fun x => [.im cScr x, .no, .no, .no, .no, .no, .no]) fun cdv A outer s H E hr C hB a_script => ?_)
  show GK _ C _ _ (m_law a_script) _
  unfold m_law
  exact (gk_cons (gs_setN (c := celT) 1 (ef_call F__law_tape (hr.mono (by decide)) (ea_one (ex_var 0 (⟨_, rfl, fun v1 => gk_cons (gs_set (c := (cSeq cU)) 2 (ex_callO 1 F__law_asking (hr.mono (by decide)) (ea_nil (⟨_, rfl, _, rfl, fun v2 => gk_cons (gs_set 3 (ex_callO 1 F__law_draw (hr.mono (by decide)) (ea_one (ex_int (⟨_, rfl, _, rfl, fun v3 => gk_cons (gs_set (c := (cSeq cU)) 4 (ex_call F__law_put (hr.mono (by decide)) (ea_cons (ex_var 2 (ea_cons (ex_var 3 (ea_one (ex_callO 1 F__law_part_of_asking (hr.mono (by decide)) (ea_cons (ex_var 3 (ea_one (ex_ixS (ex_var 2 (ex_int (⟨_, rfl, fun v4 => ⟨_, rfl, _, rfl, fun v5 => ⟨_, rfl, fun v6 => gk_cons (gs_forF (c := cInt) (fun (s8 : Tape) => [.im cScr a_script, .ow celT s8, .im (cSeq cU) v2.1, .im cInt v3.1, .im (cSeq cU) v6, .no, .no]) rfl (ag_name 5 S_law.nd) (ei_lst (ex_froz (ef_callO 1 F__law_turns (hr.mono (by decide)) (ea_one (ex_int (⟨_, rfl, _, rfl, fun v7 => ⟨_, _, _, rfl, wk_refl, fun x9 s8 => gk_one (gs_forF (c := (cSeq cU)) (fun (s10 : Unit) => [.im cScr a_script, .ow celT s8, .im (cSeq cU) v2.1, .im cInt v3.1, .im (cSeq cU) v6, .im cInt x9, .no]) rfl (ag_name 6 S_law.nd) (ei_lst (ex_froz (ef_lst (el_cons (ex_var 2 (el_cons (ex_var 4 (el_cons (ex_var 2 (el_nil (⟨_, _, _, rfl, wk_refl, fun x11 s10 => gk_one (gs_ifR (ew_not (et_val (ex_call (F__law_same 6) (hr.mono (by decide)) (ea_cons (ex_call F__law_told (hr.mono (by decide)) (ea_cons (ex_var 5 (ea_one (ex_var 6 (⟨_, rfl, fun v12 => ea_one (ex_call F__law_due (hr.mono (by decide)) (ea_cons (ex_var 5 (ea_one (ex_var 6 (⟨_, rfl, fun v13 => ⟨_, rfl, fun v14 => ⟨_, _, rfl, gk_one (gs_ret (ex_bl (rfl))), ⟨_, rfl, wk_drops [6]⟩⟩⟩⟩))))))⟩))))))))))), fun s10 => ⟨_, rfl, wk_drops [5]⟩, fun _ => rfl⟩))))))))))) .never), fun s8 => gk_one (gs_ret (ex_bl (rfl))), fun _ => rfl⟩⟩)))))) .never)⟩⟩⟩)))))))))))))) S_law.nd)⟩)))) S_law.nd)⟩))) S_law.nd)⟩)))) S_law.nd))
end
end K00

set_option maxHeartbeats 1000000
namespace K00
open PySem L2 Ty
/-! ### fractions -/
def FB (p : Int × Int) : Prop := p.1.natAbs ≤ 999999 ∧ 0 < p.2 ∧ p.2 ≤ 999999
abbrev uF : Int × Int → U := uTup (uRC uInt (uR1 uInt))
abbrev Bx := (Int × Int) × (Int × Int) × (Int × Int) × (Int × Int)
abbrev uBx : Bx → U := uTup (uRC uF (uRC uF (uRC uF (uR1 uF))))
def BB (b : Bx) : Prop := FB b.1 ∧ FB b.2.1 ∧ FB b.2.2.1 ∧ FB b.2.2.2
abbrev dF : U → Option (Int × Int) := dTup (dRC dInt (dR1 dInt))
theorem low_FB {n d : Int} (h : d ≠ 0) (hn : n.natAbs ≤ 999999) (hd : d.natAbs ≤ 999999) : FB (lowV n d) := by
  obtain ⟨a, b⟩ := lowV_le (n := n) h
  have c := lowV_pos (n := n) h
  exact ⟨by omega, c, by omega⟩
theorem ok_lowF {n d : Int} (h : d ≠ 0) (hn : n.natAbs ≤ 999999) (hd : d.natAbs ≤ 999999) : Ok (m_law_low n d) FB := ok_low h (by omega) (low_FB h hn hd)
theorem lowest_eq (n d : Int) : m_lowest n d = lowR n d := by
  unfold m_lowest lt lowR sgR
  by_cases h : d < 0
  · rw [if_pos h, show decide (d < 0) = true from decide_eq_true h]; rfl
  · rw [if_neg h, show decide (d < 0) = false from decide_eq_false h]; rfl
theorem lowest_low : m_lowest = m_law_low := by funext n d; rw [lowest_eq, low_eq]
theorem plus_eq : m_plus = m_law_plus := by unfold m_plus m_law_plus; rw [lowest_low]
theorem minus_eq : m_minus = m_law_minus := by unfold m_minus m_law_minus; rw [lowest_low]
theorem times_eq : m_times = m_law_times := by unfold m_times m_law_times; rw [lowest_low]
theorem over_eq : m_over = m_law_over := by unfold m_over m_law_over; rw [lowest_low]
theorem side_eq : m_mark_of = m_law_side := by unfold m_mark_of m_law_side; rw [minus_eq]
theorem less_eq : m_is_less = m_law_less := rfl
/-! ### draws -/
theorem mul999 {a b : Int} (h1 : 0 ≤ a) (h2 : a ≤ 999) (h3 : 0 ≤ b) (h4 : b ≤ 999) : 0 ≤ a * b ∧ a * b ≤ 998001 :=
  ⟨Int.mul_nonneg h1 h3, Int.le_trans (Int.mul_le_mul h2 h4 h3 (by decide)) (by decide)⟩
theorem fraction_ok {n : Nat} {t : Tape} (g : Good n t) (hn : n < 200000000) : Ok (m_law_fraction t (-4) 4) fun x => FB x.1 ∧ Good (n + 2) x.2 := by
  unfold m_law_fraction
  refine (ok_pick g (by omega) (by decide) (by decide)).bind fun v ⟨hv, g1⟩ => ?_
  have hv' : 1 ≤ v.1 ∧ v.1 ≤ 8 := by
    simp only [List.mem_cons, List.not_mem_nil, or_false] at hv
    omega
  refine (ok_mul (P := fun z => z = -4 * v.1) (by decide) (by omega) rfl).bind fun z hz => ?_
  refine (ok_mul (P := fun z => z = (4 - -4) * v.1) (by decide) (by omega) rfl).bind fun y hy => ?_
  refine (ok_draw g1 (by omega) (by omega)).bind fun w ⟨h1, h2, h3⟩ => ?_
  refine (ok_lowF (by omega) (by omega) (by omega)).bind fun q hq => Ok.ret ⟨hq, h3⟩
theorem any_ok {n : Nat} {t : Tape} (g : Good n t) (hn : n < 100000000) : Ok (m_law_any t) fun x => FB x.1 ∧ Good (n + 3) x.2 := by
  unfold m_law_any
  refine (ok_draw g (by omega) (by decide)).bind fun v ⟨h1, h2, h3⟩ => ?_
  refine Ok.cond (fun _ => ?_) (fun _ => Ok.cond (fun _ => ?_) (fun _ => ?_))
  · refine (ok_pick h3 (by omega) (by decide) (by decide)).bind fun w ⟨hw, g1⟩ => Ok.ret ⟨?_, g1.mono (by omega)⟩
    simp only [List.mem_cons, List.not_mem_nil, or_false] at hw
    rcases hw with h | h | h | h | h | h | h | h <;> (show FB w.1; rw [h]; exact ⟨by decide, by decide, by decide⟩)
  · exact (fraction_ok h3 (by omega)).bind fun w ⟨hw, g1⟩ => Ok.ret ⟨hw, g1⟩
  · refine (ok_draw h3 (by omega) (by decide)).bind fun w ⟨w1, w2, w3⟩ => ?_
    refine (ok_draw w3 (by omega) (by decide)).bind fun y ⟨y1, y2, y3⟩ => ?_
    refine (ok_lowF (by omega) (by omega) (by omega)).bind fun q hq => Ok.ret ⟨hq, y3⟩
theorem beside_ok {n : Nat} {t : Tape} {p : Int × Int} (hp : FB p) (g : Good n t) (hn : n < 10000000) : Ok (m_law_beside t p) fun x => FB x.1 ∧ Good (n + 4) x.2 := by
  unfold m_law_beside
  obtain ⟨p1, p2⟩ := p
  obtain ⟨f1, f2, f3⟩ := hp
  have f1 : p1.natAbs ≤ 999999 := f1
  have f2 : 0 < p2 := f2
  have f3 : p2 ≤ 999999 := f3
  refine (ok_draw g (by omega) (by decide)).bind fun v ⟨h1, h2, h3⟩ => ?_
  refine Ok.cond (fun _ => Ok.ret ⟨⟨f1, f2, f3⟩, h3.mono (by omega)⟩) (fun _ => Ok.cond (fun _ => Ok.ret ⟨⟨?_, f2, f3⟩, h3.mono (by omega)⟩) (fun _ => Ok.cond (fun c => ?_) (fun _ => Ok.cond (fun c => ?_) (fun _ => ?_))))
  · show (0 - p1).natAbs ≤ 999999; omega
  · simp only [Bool.and_eq_true, Bool.not_eq_true', decide_eq_true_eq, decide_eq_false_iff_not] at c
    exact (ok_lowF c.2.1 (by omega) f1).bind fun q hq => Ok.ret ⟨hq, h3.mono (by omega)⟩
  · simp only [Bool.and_eq_true, decide_eq_true_eq] at c
    obtain ⟨c1, c2, c3⟩ := c
    have c2 : p1.natAbs ≤ 999 := by rw [absI_nat] at c2; omega
    refine (ok_draw h3 (by omega) (by decide)).bind fun w ⟨w1, w2, w3⟩ => Ok.lt ?_
    have w2 : w.1 < 31 := w2
    have b1 : (p1 * (1 + w.1)).natAbs ≤ 999 * 31 := by
      rw [Int.natAbs_mul]; exact Nat.mul_le_mul c2 (by omega)
    have b2 : 0 < p2 * (1 + w.1) := Int.mul_pos f2 (by omega)
    have b3 : p2 * (1 + w.1) ≤ 31 * 31 := Int.mul_le_mul c3 (by omega) (by omega) (by decide)
    refine (ok_mul (P := fun z => z = p1 * (1 + w.1)) (by show p1.natAbs < _; omega) (by omega) rfl).bind fun z hz => ?_
    subst hz
    refine (ok_draw w3 (by omega) (by decide)).bind fun y ⟨y1, y2, y3⟩ => ?_
    have y2 : y.1 < 3 := y2
    refine (ok_mul (P := fun z => z = p2 * (1 + w.1)) (by show p2.natAbs < _; omega) (by omega) rfl).bind fun x hx => ?_
    subst hx
    exact (ok_lowF (by omega) (by omega) (by omega)).bind fun q hq => Ok.ret ⟨hq, y3.mono (by omega)⟩
  · exact (any_ok h3 (by omega)).bind fun q ⟨hq, gq⟩ => Ok.ret ⟨hq, gq⟩
theorem natAbs_mul_lt {a b : Int} (h1 : a.natAbs ≤ 999999) (h2 : b.natAbs ≤ 999999) : (a * b).natAbs ≤ 999998000001 := by
  rw [Int.natAbs_mul]; exact Nat.mul_le_mul h1 h2
theorem FB.b {p : Int × Int} (h : FB p) : p.1.natAbs ≤ 999999 ∧ p.2.natAbs ≤ 999999 := ⟨h.1, by have := h.2; omega⟩
theorem most_ok {p q : Int × Int} (hp : FB p) (hq : FB q) : Ok (m_law_most p q) fun _ => True := by
  unfold m_law_most
  have a := hp.b; have b := hq.b
  exact (ok_mul (P := fun _ => True) (by omega) (by omega) trivial).bind fun _ _ => (ok_mul (P := fun _ => True) (by omega) (by omega) trivial).bind fun _ _ => Ok.ret trivial
theorem less_ok {p q : Int × Int} (hp : FB p) (hq : FB q) : Ok (m_law_less p q) fun _ => True := by
  unfold m_law_less
  have a := hp.b; have b := hq.b
  exact (ok_mul (P := fun _ => True) (by omega) (by omega) trivial).bind fun _ _ => (ok_mul (P := fun _ => True) (by omega) (by omega) trivial).bind fun _ _ => Ok.ret trivial
theorem cond_FB {b : Bool} {p q : Int × Int} (hp : FB p) (hq : FB q) : FB (cond b p q) := by cases b; exact hq; exact hp
theorem box_ok {n : Nat} {t : Tape} (g : Good n t) (hn : n < 1000000) : Ok (m_law_box t) fun x => BB x.1 ∧ Good (n + 14) x.2 := by
  unfold m_law_box
  refine (any_ok g (by omega)).bind fun v1 ⟨h1, g1⟩ => (any_ok g1 (by omega)).bind fun v2 ⟨h2, g2⟩ => (beside_ok h1 g2 (by omega)).bind fun v3 ⟨h3, g3⟩ => (beside_ok h2 g3 (by omega)).bind fun v4 ⟨h4, g4⟩ => ?_
  refine (most_ok h2 h4).bind fun v5 _ => Ok.lt ((most_ok h2 h4).bind fun v7 _ => Ok.lt ((most_ok h1 h3).bind fun v9 _ => ?_))
  exact Ok.cond (fun _ => Ok.ret ⟨⟨h1, cond_FB h2 h4, h3, cond_FB h4 h2⟩, g4⟩) (fun _ => Ok.ret ⟨⟨h3, cond_FB h2 h4, h1, cond_FB h4 h2⟩, g4⟩)
theorem pm {v : Int} (h : v ∈ [(1 : Int), (-(1 : Int))]) : v = 1 ∨ v = -1 := by
  simpa using h
theorem two_ok {n : Nat} {t : Tape} (g : Good n t) (hn : n < 1000000) : Ok (m_law_two_integers t) fun x => (x.1.1.natAbs ≤ 999999 ∧ x.1.2 ≠ 0 ∧ x.1.2.natAbs ≤ 999999) ∧ Good (n + 8) x.2 := by
  unfold m_law_two_integers
  refine (ok_draw g (by omega) (by decide)).bind fun v1 ⟨a1, a2, g1⟩ => (ok_draw g1 (by omega) (by decide)).bind fun v2 ⟨b1, b2, g2⟩ => Ok.lt ((ok_draw g2 (by omega) (by decide)).bind fun v4 ⟨c1, c2, g4⟩ => ?_)
  have a2 : v1.1 < 1000 := a2
  have b2 : v2.1 < 999 := b2
  refine Ok.bind (P := fun s => (0 ≤ s.1 ∧ s.1 ≤ 999999) ∧ (0 < s.2.1 ∧ s.2.1 ≤ 999999) ∧ Good (n + 5) s.2.2) (Ok.cond (fun _ => ?_) (fun _ => ?_)) ?_
  · refine (ok_draw g4 (by omega) (by decide)).bind fun v6 ⟨d1, d2, g6⟩ => (ok_draw g6 (by omega) (by decide)).bind fun v7 ⟨e1, e2, g7⟩ => Ok.lt (Ok.ret ⟨?_, ?_, g7⟩)
    · have d2 : v6.1 < 1000000 := d2
      show 0 ≤ v6.1 ∧ v6.1 ≤ 999999; omega
    · have e2 : v7.1 < 999999 := e2
      show 0 < 1 + v7.1 ∧ 1 + v7.1 ≤ 999999; omega
  · refine Ok.bind (P := fun s => (0 ≤ s.1 ∧ s.1 ≤ 999999) ∧ (0 < s.2.1 ∧ s.2.1 ≤ 999999) ∧ Good (n + 5) s.2.2) (Ok.cond (fun _ => ?_) (fun _ => ?_)) fun s hs => Ok.ret hs
    · refine (ok_draw g4 (by omega) (by decide)).bind fun v10 ⟨d1, d2, g6⟩ => Ok.lt ?_
      have d2 : v10.1 < 999 := d2
      obtain ⟨m1, m2⟩ := mul999 (a := v1.1) (b := 1 + v10.1) a1 (by omega) (by omega) (by omega)
      obtain ⟨m3, m4⟩ := mul999 (a := 1 + v2.1) (b := 1 + v10.1) (by omega) (by omega) (by omega) (by omega)
      have m5 : 0 < (1 + v2.1) * (1 + v10.1) := Int.mul_pos (by omega) (by omega)
      refine (ok_mul (P := fun z => z = v1.1 * (1 + v10.1)) (by omega) (by omega) rfl).bind fun z hz => (ok_mul (P := fun z => z = (1 + v2.1) * (1 + v10.1)) (by omega) (by omega) rfl).bind fun y hy => Ok.ret ⟨?_, ?_, g6.mono (by omega)⟩
      · show 0 ≤ z ∧ z ≤ 999999; omega
      · show 0 < y ∧ y ≤ 999999; omega
    · refine Ok.ret ⟨?_, ?_, g4.mono (by omega)⟩
      · show 0 ≤ v1.1 ∧ v1.1 ≤ 999999; omega
      · show 0 < 1 + v2.1 ∧ 1 + v2.1 ≤ 999999; omega
  · rintro ⟨a, d, t'⟩ ⟨h1, h2, g5⟩
    have h1 : 0 ≤ a ∧ a ≤ 999999 := h1
    have h2 : 0 < d ∧ d ≤ 999999 := h2
    refine (ok_pick g5 (by omega) (by show 0 < 8; decide) (by show 8 < _; decide)).bind fun v14 ⟨hv, g6⟩ => (ok_pick g6 (by omega) (by decide) (by decide)).bind fun v15 ⟨hw, g7⟩ => ?_
    have hv' : 0 ≤ v14.1 ∧ v14.1 ≤ 999999 := by
      simp only [List.mem_cons, List.not_mem_nil, or_false] at hv
      omega
    have hw := pm hw
    refine (ok_mul (P := fun z => z = v14.1 * v15.1) (by omega) (by omega) rfl).bind fun z hz => (ok_pick g7 (by omega) (by decide) (by decide)).bind fun v17 ⟨hy, g8⟩ => ?_
    have hy := pm hy
    refine (ok_mul (P := fun z => z = d * v17.1) (by omega) (by omega) rfl).bind fun y hy' => Ok.ret ⟨⟨?_, ?_, ?_⟩, g8⟩
    · show z.natAbs ≤ 999999
      rw [hz]; rcases hw with h | h <;> rw [h] <;> omega
    · show y ≠ 0
      rw [hy']; rcases hy with h | h <;> rw [h] <;> omega
    · show y.natAbs ≤ 999999
      rw [hy']; rcases hy with h | h <;> rw [h] <;> omega
/-! ### an asking -/
def marks : List Str := ["west", "south", "east", "north", "width", "height"]
def PartP : Nat → U → Prop
  | 0, x => ∃ n d : Int, x = uF (n, d) ∧ n.natAbs ≤ 999999 ∧ d ≠ 0 ∧ d.natAbs ≤ 999999
  | 1, x => ∃ p, x = uF p ∧ FB p
  | 2, x => ∃ p, x = uF p ∧ FB p
  | 3, x => ∃ fs, x = uSeq uF fs ∧ fs.length ≤ 24 ∧ ∀ f ∈ fs, FB f
  | 4, x => ∃ bs, x = uSeq uBx bs ∧ 0 < bs.length ∧ bs.length ≤ 6 ∧ ∀ b ∈ bs, BB b
  | 5, x => ∃ s, x = uStr s ∧ s ∈ marks
  | _, _ => False
theorem dF_ok (p : Int × Int) : dF (uF p) = some p := rfl
theorem part_ok {n : Nat} {t : Tape} {k : Nat} {u : U} (g : Good n t) (hn : n < 100000) (hk : k < 6) (hu : k = 2 → ∃ p, u = uF p ∧ FB p) : Ok (m_law_part_of_asking t (k : Int) u) fun x => PartP k x.1 ∧ Good (n + 200) x.2 := by
  unfold m_law_part_of_asking
  match k, hk, hu with
  | 0, _, _ =>
    show Ok (m_law_two_integers t >>= _) _
    refine (two_ok g (by omega)).bind fun v ⟨⟨a, b, c⟩, g1⟩ => Ok.ret ⟨⟨v.1.1, v.1.2, rfl, a, b, c⟩, g1.mono (by omega)⟩
  | 1, _, _ =>
    show Ok (m_law_any t >>= _) _
    exact (any_ok g (by omega)).bind fun v ⟨a, g1⟩ => Ok.ret ⟨⟨v.1, rfl, a⟩, g1.mono (by omega)⟩
  | 2, _, hu =>
    obtain ⟨p, rfl, hp⟩ := hu rfl
    show Ok (m_law_beside t p >>= _) _
    exact (beside_ok hp g (by omega)).bind fun v ⟨a, g1⟩ => Ok.ret ⟨⟨v.1, rfl, a⟩, g1.mono (by omega)⟩
  | 3, _, _ =>
    show Ok (m_law_draw t 8 >>= _) _
    refine (ok_draw g (by omega) (by decide)).bind fun v ⟨a, b, g1⟩ => ?_
    refine Ok.bind (P := fun c => (0 ≤ c.1 ∧ c.1 ≤ 24) ∧ Good (n + 2) c.2) (Ok.cond (fun _ => Ok.ret ⟨⟨(by show (0 : Int) ≤ 24; decide), (by show (24 : Int) ≤ 24; decide)⟩, g1.mono (by omega)⟩) (fun _ => (ok_draw g1 (by omega) (by decide)).bind fun w ⟨c, d, g2⟩ => Ok.ret ⟨⟨c, ?_⟩, g2⟩)) ?_
    · have d : w.1 < 7 := d
      show w.1 ≤ 24; omega
    · rintro ⟨many, t'⟩ ⟨⟨h1, h2⟩, g2⟩
      have h1 : 0 ≤ many := h1
      have h2 : many ≤ 24 := h2
      refine (ok_rng1 (P := fun r => r = rangeI 0 many) (by unfold CRng; show -8000000 ≤ many ∧ many ≤ 8000000; omega) rfl).bind fun r hr => ?_
      subst hr
      have hl : (rangeI 0 many).length ≤ 24 := by rw [len_rangeI]; omega
      refine (ok_mapS (fun i t => Good (n + 2 + 3 * i) t) (P := FB) (rangeI 0 many) 0 t' g2 fun i x s _ _ hi hs => (any_ok hs (by omega)).bind fun w ⟨q, g3⟩ => Ok.ret ⟨q, g3.mono (by omega)⟩).bind fun ys ⟨l, q, g4⟩ => Ok.ret ⟨⟨ys.1, rfl, by omega, q⟩, g4.mono (by omega)⟩
  | 4, _, _ =>
    show Ok (m_law_draw t 8 >>= _) _
    refine (ok_draw g (by omega) (by decide)).bind fun v ⟨a, b, g1⟩ => ?_
    refine Ok.bind (P := fun c => (1 ≤ c.1 ∧ c.1 ≤ 6) ∧ Good (n + 2) c.2) (Ok.cond (fun _ => Ok.ret ⟨⟨(by show (1 : Int) ≤ 6; decide), (by show (6 : Int) ≤ 6; decide)⟩, g1.mono (by omega)⟩) (fun _ => (ok_draw g1 (by omega) (by decide)).bind fun w ⟨c, d, g2⟩ => Ok.ret ⟨?_, g2⟩)) ?_
    · have d : w.1 < 3 := d
      show 1 ≤ 1 + w.1 ∧ 1 + w.1 ≤ 6; omega
    · rintro ⟨many, t'⟩ ⟨⟨h1, h2⟩, g2⟩
      have h1 : 1 ≤ many := h1
      have h2 : many ≤ 6 := h2
      refine (ok_rng1 (P := fun r => r = rangeI 0 many) (by unfold CRng; show -8000000 ≤ many ∧ many ≤ 8000000; omega) rfl).bind fun r hr => ?_
      subst hr
      have hl : (rangeI 0 many).length = many.toNat := by rw [len_rangeI]; omega
      refine (ok_mapS (fun i t => Good (n + 2 + 14 * i) t) (P := BB) (rangeI 0 many) 0 t' g2 fun i x s _ _ hi hs => (box_ok hs (by omega)).bind fun w ⟨q, g3⟩ => Ok.ret ⟨q, g3.mono (by omega)⟩).bind fun ys ⟨l, q, g4⟩ => Ok.ret ⟨⟨ys.1, rfl, by omega, by omega, q⟩, g4.mono (by omega)⟩
  | 5, _, _ =>
    show Ok (m_law_pick t _ >>= _) _
    exact (ok_pick g (by omega) (by decide) (by decide)).bind fun v ⟨a, g1⟩ => Ok.ret ⟨⟨v.1, rfl, a⟩, g1.mono (by omega)⟩
  | k + 6, h, _ => omega
def AskP (a : List U) : Prop := ∃ x0 x1 x2 x3 x4 x5, a = [x0, x1, x2, x3, x4, x5] ∧ PartP 0 x0 ∧ PartP 1 x1 ∧ PartP 2 x2 ∧ PartP 3 x3 ∧ PartP 4 x4 ∧ PartP 5 x5
theorem ok_cons {α S : Type} {f : α → S → Option S} {x : α} {xs : List α} {s : S} {P Q : S → Prop} (h : Ok (f x s) P) (k : ∀ s', P s' → Ok (forS xs s' f) Q) : Ok (forS (x :: xs) s f) Q := Ok.bind h k
theorem asking_ok {n : Nat} {t : Tape} (g : Good n t) (hn : n < 10000) : Ok (m_law_asking t) fun x => AskP x.1 ∧ Good (n + 1200) x.2 := by
  unfold m_law_asking
  refine (part_ok (k := 0) g (by omega) (by decide) (fun h => absurd h (by decide))).bind fun v0 ⟨a0, g0⟩ => (part_ok (k := 1) g0 (by omega) (by decide) (fun h => absurd h (by decide))).bind fun v1 ⟨a1, g1⟩ => Ok.lt ?_
  refine Ok.bind (P := fun r => r = [2, 3, 4, 5]) ⟨_, rfl, rfl⟩ fun r hr => ?_
  subst hr
  refine Ok.bind (P := fun x => AskP x.1 ∧ Good (n + 1200) x.2) ?_ fun x hx => Ok.ret hx
  refine ok_cons (P := fun s => ∃ y, s.1 = [v0.1, v1.1, y] ∧ PartP 2 y ∧ Good (n + 600) s.2) ?_ ?_
  · show Ok (m_law_part_of_asking v1.2 ((2 : Nat) : Int) v1.1 >>= _) _
    exact (part_ok (k := 2) g1 (by omega) (by decide) (fun _ => a1)).bind fun v ⟨a, g⟩ => ⟨_, rfl, v.1, rfl, a, g.mono (by omega)⟩
  rintro ⟨l2, t2⟩ ⟨x2, e2, a2, g2⟩
  have e2 : l2 = [v0.1, v1.1, x2] := e2
  subst e2
  refine ok_cons (P := fun s => ∃ y, s.1 = [v0.1, v1.1, x2, y] ∧ PartP 3 y ∧ Good (n + 800) s.2) ?_ ?_
  · show Ok (m_law_part_of_asking t2 ((3 : Nat) : Int) v1.1 >>= _) _
    exact (part_ok (k := 3) g2 (by omega) (by decide) (fun h => absurd h (by decide))).bind fun v ⟨a, g⟩ => ⟨_, rfl, v.1, rfl, a, g.mono (by omega)⟩
  rintro ⟨l3, t3⟩ ⟨x3, e3, a3, g3⟩
  have e3 : l3 = [v0.1, v1.1, x2, x3] := e3
  subst e3
  refine ok_cons (P := fun s => ∃ y, s.1 = [v0.1, v1.1, x2, x3, y] ∧ PartP 4 y ∧ Good (n + 1000) s.2) ?_ ?_
  · show Ok (m_law_part_of_asking t3 ((4 : Nat) : Int) v1.1 >>= _) _
    exact (part_ok (k := 4) g3 (by omega) (by decide) (fun h => absurd h (by decide))).bind fun v ⟨a, g⟩ => ⟨_, rfl, v.1, rfl, a, g.mono (by omega)⟩
  rintro ⟨l4, t4⟩ ⟨x4, e4, a4, g4⟩
  have e4 : l4 = [v0.1, v1.1, x2, x3, x4] := e4
  subst e4
  refine ok_cons (P := fun s => ∃ y, s.1 = [v0.1, v1.1, x2, x3, x4, y] ∧ PartP 5 y ∧ Good (n + 1200) s.2) ?_ ?_
  · show Ok (m_law_part_of_asking t4 ((5 : Nat) : Int) v1.1 >>= _) _
    exact (part_ok (k := 5) g4 (by omega) (by decide) (fun h => absurd h (by decide))).bind fun v ⟨a, g⟩ => ⟨_, rfl, v.1, rfl, a, g.mono (by omega)⟩
  rintro ⟨l5, t5⟩ ⟨x5, e5, a5, g5⟩
  have e5 : l5 = [v0.1, v1.1, x2, x3, x4, x5] := e5
  subst e5
  exact ⟨_, rfl, ⟨_, _, _, _, _, _, rfl, a0, a1, a2, a3, a4, a5⟩, g5.mono (by omega)⟩
theorem put_ok {a : List U} {k : Nat} {x : U} (h : AskP a) (hk : k < 6) (hx : PartP k x) : Ok (m_law_put a (k : Int) x) AskP := by
  obtain ⟨x0, x1, x2, x3, x4, x5, rfl, h0, h1, h2, h3, h4, h5⟩ := h
  match k, hk, hx with
  | 0, _, hx => exact ⟨_, rfl, _, _, _, _, _, _, rfl, hx, h1, h2, h3, h4, h5⟩
  | 1, _, hx => exact ⟨_, rfl, _, _, _, _, _, _, rfl, h0, hx, h2, h3, h4, h5⟩
  | 2, _, hx => exact ⟨_, rfl, _, _, _, _, _, _, rfl, h0, h1, hx, h3, h4, h5⟩
  | 3, _, hx => exact ⟨_, rfl, _, _, _, _, _, _, rfl, h0, h1, h2, hx, h4, h5⟩
  | 4, _, hx => exact ⟨_, rfl, _, _, _, _, _, _, rfl, h0, h1, h2, h3, hx, h5⟩
  | 5, _, hx => exact ⟨_, rfl, _, _, _, _, _, _, rfl, h0, h1, h2, h3, h4, hx⟩
  | k + 6, h, _ => omega
/-! ### what is told is what is due -/
theorem plain_F (k : Nat) (v : Int × Int) : Plain (k + 2) (uF v) := ⟨by show 2 ≤ 8000000; decide, fun x hx => by
  have hx : x ∈ [U.int v.1, U.int v.2] := hx
  simp only [List.mem_cons, List.not_mem_nil, or_false] at hx
  rcases hx with rfl | rfl <;> exact trivial⟩
def Same2 (x y : Option U) : Prop := Ok x fun u => y = some u ∧ Plain 6 u
theorem same_F {m : Option (Int × Int)} {P : Int × Int → Prop} (h : Ok m P) : Same2 (m >>= fun v => some (uF v)) (m >>= fun v => some (uF v)) := by
  obtain ⟨v, rfl, _⟩ := h
  exact ⟨_, rfl, rfl, plain_F 4 v⟩
theorem same_B {m : Option Bool} {P : Bool → Prop} (h : Ok m P) : Same2 (m >>= fun v => some (uBool v)) (m >>= fun v => some (uBool v)) := by
  obtain ⟨v, rfl, _⟩ := h
  exact ⟨_, rfl, rfl, trivial⟩
theorem mul_ne {a b : Int} (ha : a ≠ 0) (hb : b ≠ 0) : a * b ≠ 0 := Int.mul_ne_zero ha hb
theorem plus_ok {p q : Int × Int} (hp : FB p) (hq : FB q) : Ok (m_law_plus p q) fun _ => True := by
  unfold m_law_plus
  have a := hp.b; have b := hq.b
  have z := natAbs_mul_lt a.2 b.2
  refine (ok_mul (P := fun z => z = p.1 * q.2) (by omega) (by omega) rfl).bind fun x hx => (ok_mul (P := fun z => z = q.1 * p.2) (by omega) (by omega) rfl).bind fun y hy => (ok_mul (P := fun z => z = p.2 * q.2) (by omega) (by omega) rfl).bind fun w hw => ?_
  subst hw
  exact (ok_low (P := fun _ => True) (mul_ne (by have := hp.2; omega) (by have := hq.2; omega)) (by omega) trivial).bind fun _ _ => Ok.ret trivial
theorem minus_ok {p q : Int × Int} (hp : FB p) (hq : FB q) : Ok (m_law_minus p q) fun _ => True := by
  unfold m_law_minus
  have a := hp.b; have b := hq.b
  have z := natAbs_mul_lt a.2 b.2
  refine (ok_mul (P := fun z => z = p.1 * q.2) (by omega) (by omega) rfl).bind fun x hx => (ok_mul (P := fun z => z = q.1 * p.2) (by omega) (by omega) rfl).bind fun y hy => (ok_mul (P := fun z => z = p.2 * q.2) (by omega) (by omega) rfl).bind fun w hw => ?_
  subst hw
  exact (ok_low (P := fun _ => True) (mul_ne (by have := hp.2; omega) (by have := hq.2; omega)) (by omega) trivial).bind fun _ _ => Ok.ret trivial
theorem times_ok {p q : Int × Int} (hp : FB p) (hq : FB q) : Ok (m_law_times p q) fun _ => True := by
  unfold m_law_times
  have a := hp.b; have b := hq.b
  have z := natAbs_mul_lt a.2 b.2
  refine (ok_mul (P := fun z => z = p.1 * q.1) (by omega) (by omega) rfl).bind fun x hx => (ok_mul (P := fun z => z = p.2 * q.2) (by omega) (by omega) rfl).bind fun w hw => ?_
  subst hw
  exact (ok_low (P := fun _ => True) (mul_ne (by have := hp.2; omega) (by have := hq.2; omega)) (by omega) trivial).bind fun _ _ => Ok.ret trivial
theorem over_ok {p q : Int × Int} (hp : FB p) (hq : q.1 ≠ 0) (b : q.1.natAbs ≤ 999999 ∧ q.2.natAbs ≤ 999999) : Ok (m_law_over p q) fun _ => True := by
  unfold m_law_over
  have a := hp.b
  have z := natAbs_mul_lt a.2 b.1
  refine (ok_mul (P := fun z => z = p.1 * q.2) (by omega) (by omega) rfl).bind fun x hx => (ok_mul (P := fun z => z = p.2 * q.1) (by omega) (by omega) rfl).bind fun w hw => ?_
  subst hw
  exact (ok_low (P := fun _ => True) (mul_ne (by have := hp.2; omega) hq) (by omega) trivial).bind fun _ _ => Ok.ret trivial
theorem side_ok {b : Bx} {s : Str} (hb : BB b) (hs : s ∈ marks) : Ok (m_law_side b s) fun _ => True := by
  obtain ⟨h1, h2, h3, h4⟩ := hb
  unfold marks at hs
  simp only [List.mem_cons, List.not_mem_nil, or_false] at hs
  rcases hs with rfl | rfl | rfl | rfl | rfl | rfl
  · exact ⟨_, rfl, trivial⟩
  · exact ⟨_, rfl, trivial⟩
  · exact ⟨_, rfl, trivial⟩
  · exact ⟨_, rfl, trivial⟩
  · show Ok (m_law_minus b.2.2.1 b.1 >>= _) _
    exact (minus_ok h3 h1).bind fun v _ => Ok.ret trivial
  · show Ok (m_law_minus b.2.2.2 b.2.1 >>= _) _
    exact (minus_ok h4 h2).bind fun v _ => Ok.ret trivial
theorem last_ok {bs : List Bx} (h : 0 < bs.length) : ∃ b, b ∈ bs ∧ atI (bs.map uBx) (-1) = some (uBx b) := by
  have hk : bs.length - 1 < bs.length := by omega
  refine ⟨bs[bs.length - 1], List.getElem_mem hk, ?_⟩
  unfold atI ixN
  rw [List.length_map, if_neg (by decide), if_pos (by omega), show (-1 + (bs.length : Int)).toNat = bs.length - 1 by omega]
  simp [hk]
theorem lcm_step {s b : Int} (hs : 0 < s) (hb : 0 < b) : s * (lowV s b).2 = ((Nat.lcm s.natAbs b.natAbs : Nat) : Int) := by
  have g := gcdI_pos (n := s) (d := b) (by omega)
  have m := (lowV_mul (n := s) (d := b) (by omega)).2
  have e : sgR s b = gcdI s b := if_neg (by omega)
  rw [e] at m
  refine Int.eq_of_mul_eq_mul_right (a := gcdI s b) (by omega) ?_
  rw [Int.mul_assoc, m]
  unfold gcdI
  rw [← Int.natCast_mul, Nat.mul_comm (Nat.lcm _ _), Nat.gcd_mul_lcm, Int.natCast_mul, Int.natAbs_of_nonneg (by omega : 0 ≤ s), Int.natAbs_of_nonneg (by omega : 0 ≤ b)]
theorem common_due : ∀ (fs : List (Int × Int)) (i : Nat) (s : Int), (∀ f ∈ fs, FB f) → i + fs.length ≤ 24 → 0 < s → s.natAbs ≤ 1000000 ^ i →
    Ok (forS fs s (fun x2 (s1 : Int) => lcmR s1 x2.2 >>= fun v3 => some v3)) fun v => forS (fs.map uF) s (fun x31 (s30 : Int) => U.get x31 (1 : Int) >>= fun v32 => dInt v32 >>= fun v33 => m_law_low s30 v33 >>= fun v34 => mulR s30 v34.2 >>= fun v35 => some v35) = some v
  | [], i, s, _, _, _, _ => ⟨s, rfl, rfl⟩
  | (a, b) :: fs, i, s, hf, hl, hs, hb => by
    have fb := hf _ (List.mem_cons_self ..)
    have b1 : 0 < b := fb.2.1
    have b2 : b ≤ 999999 := fb.2.2
    have hl : i + (fs.length + 1) ≤ 24 := hl
    have p1 : 1000000 ^ i ≤ 1000000 ^ 24 := Nat.pow_le_pow_right (by decide) (by omega)
    have p2 : 1000000 ^ 24 < 2 ^ 500 := by decide +kernel
    have l1 : s.natAbs.log2 ≤ 499 := log2_small (k := 499) (by omega)
    have l2 : b.natAbs.log2 ≤ 249 := log2_small (k := 249) (by omega)
    have e1 : lcmR s b = some ((Nat.lcm s.natAbs b.natAbs : Nat) : Int) := if_pos ⟨by omega, by omega⟩
    have e2 : m_law_low s b = some (lowV s b) := by rw [low_eq, lowR_eq (by omega) (by omega)]
    have l3 : (lowV s b).2.natAbs ≤ b.natAbs := (lowV_le (n := s) (d := b) (by omega)).2
    have l4 : (lowV s b).2.natAbs.log2 ≤ 249 := log2_small (k := 249) (by omega)
    have e3 : mulR s (lowV s b).2 = some ((Nat.lcm s.natAbs b.natAbs : Nat) : Int) := by rw [mulR_b (by omega) (by omega), lcm_step hs b1]
    have n1 : 0 < Nat.lcm s.natAbs b.natAbs := Nat.lcm_pos (by omega) (by omega)
    have n2 : Nat.lcm s.natAbs b.natAbs ≤ s.natAbs * b.natAbs := Nat.le_of_dvd (Nat.mul_pos (by omega) (by omega)) (Nat.lcm_dvd_mul ..)
    have n3 : s.natAbs * b.natAbs ≤ 1000000 ^ i * 1000000 := Nat.mul_le_mul hb (by omega)
    have ih := common_due fs (i + 1) ((Nat.lcm s.natAbs b.natAbs : Nat) : Int) (fun f h => hf f (List.mem_cons_of_mem _ h)) (by omega) (by omega) (by rw [Nat.pow_succ, Int.natAbs_natCast]; omega)
    show Ok ((lcmR s b >>= fun v3 => some v3) >>= fun s' => forS fs s' _) fun v => ((m_law_low s b >>= fun v34 => mulR s v34.2 >>= fun v35 => some v35) >>= fun s' => forS (fs.map uF) s' _) = some v
    rw [e1, e2]
    show Ok (forS fs _ _) fun v => ((mulR s (lowV s b).2 >>= fun v35 => some v35) >>= fun s' => forS (fs.map uF) s' _) = some v
    rw [e3]
    exact ih
theorem wide_box {b : Bx} (h : BB b) : ∃ v, m_is_wide_box b = some v := by
  obtain ⟨h1, h2, h3, h4⟩ := h
  unfold m_is_wide_box
  rw [less_eq]
  obtain ⟨v, e, _⟩ := less_ok h1 h3
  obtain ⟨w, e2, _⟩ := less_ok h2 h4
  rw [e]
  cases v
  · exact ⟨_, rfl⟩
  · show ∃ v, ((m_law_less b.2.1 b.2.2.2 >>= fun v2 => some v2) >>= fun c3 => some c3) = some v
    rw [e2]; exact ⟨_, rfl⟩
def dueBox (x44 : U) : Option Bool := U.get x44 (0 : Int) >>= fun v45 => dF v45 >>= fun v46 => U.get x44 (2 : Int) >>= fun v47 => dF v47 >>= fun v48 => m_law_less v46 v48 >>= fun v49 =>
  (cond v49 (U.get x44 (1 : Int) >>= fun v50 => dF v50 >>= fun v51 => U.get x44 (3 : Int) >>= fun v52 => dF v52 >>= fun v53 => m_law_less v51 v53 >>= fun v54 => some v54) (some false)) >>= fun c55 => some c55
theorem dueBox_eq {b : Bx} (h : BB b) : dueBox (uBx b) = m_is_wide_box b >>= fun v2 => some v2 := by
  obtain ⟨h1, h2, h3, h4⟩ := h
  unfold m_is_wide_box
  rw [less_eq]
  obtain ⟨v, e, _⟩ := less_ok h1 h3
  obtain ⟨w, e2, _⟩ := less_ok h2 h4
  rw [e]
  show (m_law_less b.1 b.2.2.1 >>= fun v49 => (cond v49 (m_law_less b.2.1 b.2.2.2 >>= fun v54 => some v54) (some false)) >>= fun c55 => some c55) = _
  rw [e]
  cases v
  · rfl
  · show ((m_law_less b.2.1 b.2.2.2 >>= fun v54 => some v54) >>= fun c55 => some c55) = (((m_law_less b.2.1 b.2.2.2 >>= fun v2 => some v2) >>= fun c3 => some c3) >>= fun v2 => some v2)
    rw [e2]; rfl
theorem all_in (ys : List Bool) : (ys.all fun b => b) = !decide (false ∈ ys) := by
  induction ys with
  | nil => rfl
  | cons y ys ih => cases y <;> simp [ih]
theorem door_ok {a : List U} (h : AskP a) {k : Nat} (hk : k < 9) : Same2 (m_law_told (k : Int) a) (m_law_due (k : Int) a) := by
  obtain ⟨_, _, _, _, _, _, rfl, ⟨n, d, rfl, n1, d0, d1⟩, ⟨⟨pn, pd⟩, rfl, hp⟩, ⟨⟨qn, qd⟩, rfl, hq⟩, ⟨fs, rfl, f1, f2⟩, ⟨bs, rfl, c0, c1, c2⟩, ⟨s, rfl, hs⟩⟩ := h
  match k, hk with
  | 0, _ =>
    show Same2 (m_lowest n d >>= fun v => some (uF v)) (m_law_low n d >>= fun v => some (uF v))
    rw [lowest_low]
    exact same_F (ok_low (P := fun _ => True) d0 (by omega) trivial)
  | 1, _ =>
    show Same2 (m_plus (pn, pd) (qn, qd) >>= fun v => some (uF v)) (m_law_plus (pn, pd) (qn, qd) >>= fun v => some (uF v))
    rw [plus_eq]
    exact same_F (plus_ok hp hq)
  | 2, _ =>
    show Same2 (m_minus (pn, pd) (qn, qd) >>= fun v => some (uF v)) (m_law_minus (pn, pd) (qn, qd) >>= fun v => some (uF v))
    rw [minus_eq]
    exact same_F (minus_ok hp hq)
  | 3, _ =>
    show Same2 (m_times (pn, pd) (qn, qd) >>= fun v => some (uF v)) (m_law_times (pn, pd) (qn, qd) >>= fun v => some (uF v))
    rw [times_eq]
    exact same_F (times_ok hp hq)
  | 4, _ =>
    show Same2 (cond (!decide (qn = 0)) (some (qn, qd)) (some (-1, 3)) >>= fun c => m_over (pn, pd) c >>= fun v => some (uF v)) (cond (!decide (qn = 0)) (some (qn, qd)) (some (-1, 3)) >>= fun c => m_law_over (pn, pd) c >>= fun v => some (uF v))
    rw [over_eq]
    by_cases h : qn = 0
    · rw [show (!decide (qn = 0)) = false by simp [h]]
      exact same_F (over_ok hp (by show (-1 : Int) ≠ 0; decide) (by show (-1 : Int).natAbs ≤ 999999 ∧ (3 : Int).natAbs ≤ 999999; decide))
    · rw [show (!decide (qn = 0)) = true by simp [h]]
      exact same_F (over_ok hp h hq.b)
  | 5, _ =>
    show Same2 (m_is_less (pn, pd) (qn, qd) >>= fun v => some (uBool v)) (m_law_less (pn, pd) (qn, qd) >>= fun v => some (uBool v))
    exact same_B (less_ok hp hq)
  | 6, _ =>
    show Same2 (dSeq dF (uSeq uF fs) >>= fun v38 => m_common v38 >>= fun v => some (uInt v)) (dSeq some (.tup (fs.map uF)) >>= fun v29 => forS v29 1 _ >>= fun v => some (uInt v))
    rw [dSeqs_ok dF_ok, dSeqU]
    obtain ⟨v, e1, e2⟩ := common_due fs 0 1 f2 (by omega) (by decide) (by decide)
    refine ⟨uInt v, ?_, ?_, trivial⟩
    · show ((forS fs 1 _ >>= fun s1 => some s1) >>= fun v => some (uInt v)) = _
      rw [e1]; rfl
    · show (forS (fs.map uF) 1 _ >>= fun v => some (uInt v)) = _
      rw [e2]; rfl
  | 7, _ =>
    obtain ⟨b, hb, e⟩ := last_ok c0
    show Same2 (atI (bs.map uBx) (-1) >>= fun v41 => _) (atI (bs.map uBx) (-1) >>= fun v37 => _)
    rw [e]
    obtain ⟨⟨b1, b2⟩, ⟨b3, b4⟩, ⟨b5, b6⟩, ⟨b7, b8⟩⟩ := b
    show Same2 (m_mark_of ((b1, b2), (b3, b4), (b5, b6), (b7, b8)) s >>= fun v => some (uF v)) (m_law_side ((b1, b2), (b3, b4), (b5, b6), (b7, b8)) s >>= fun v => some (uF v))
    rw [side_eq]
    exact same_F (side_ok (c2 _ hb) hs)
  | 8, _ =>
    show Same2 (dSeq (dTup (dRC dF (dRC dF (dRC dF (dR1 dF))))) (uSeq uBx bs) >>= fun v47 => m_is_wide v47 >>= fun v48 => some (uBool v48)) (dSeq some (.tup (bs.map uBx)) >>= fun v43 => mapR dueBox v43 >>= fun ys56 => some (uBool (!decide (false ∈ ys56))))
    rw [dSeqs_ok (d := dTup (dRC dF (dRC dF (dRC dF (dR1 dF))))) (u := uBx) (fun _ => rfl), dSeqU]
    show Same2 ((mapR (fun x1 => m_is_wide_box x1 >>= fun v2 => some v2) bs >>= fun ys3 => some (ys3.all fun b => b)) >>= fun v48 => some (uBool v48)) (mapR dueBox (bs.map uBx) >>= fun ys56 => some (uBool (!decide (false ∈ ys56))))
    rw [mapR_map, mapR_congr (f := fun x => dueBox (uBx x)) (g := fun x1 => m_is_wide_box x1 >>= fun v2 => some v2) fun x hx => dueBox_eq (c2 x hx)]
    obtain ⟨ys, e, _⟩ := ok_mapR (P := fun _ => True) (f := fun x1 => m_is_wide_box x1 >>= fun v2 => some v2) bs fun x hx => by
      obtain ⟨v, e⟩ := wide_box (c2 x hx)
      rw [e]; exact ⟨_, rfl, trivial⟩
    rw [e]
    refine ⟨_, rfl, ?_, trivial⟩
    show some (uBool (!decide (false ∈ ys))) = some (uBool (ys.all fun b => b))
    rw [all_in]
  | k + 9, h => omega
theorem law_ok (ns : List Int) (_ : ns.length ≤ 63) : m_law ns = some true := by
  have : Ok (m_law ns) fun v => v = true := by
    unfold m_law
    refine (ok_tape ns).bind fun t g => (asking_ok g (by decide)).bind fun v2 ⟨h2, g2⟩ => (ok_draw g2 (by decide) (by decide)).bind fun v3 ⟨a, b, g3⟩ => ?_
    have b : v3.1 < 6 := b
    obtain ⟨l2, t2⟩ := v2
    obtain ⟨k, t3⟩ := v3
    obtain ⟨k, rfl⟩ := Int.eq_ofNat_of_zero_le a
    have h2 : AskP l2 := h2
    have hk : k < 6 := by have b : (k : Int) < 6 := b; omega
    obtain ⟨x0, x1, x2, x3, x4, x5, e, p0, p1, p2, p3, p4, p5⟩ := h2
    refine Ok.bind (P := fun v => v = x1) ⟨x1, by show atI l2 1 = _; rw [e]; rfl, rfl⟩ fun v4 e4 => ?_
    subst e4
    refine (part_ok (k := k) g3 (by decide) hk (fun _ => p1)).bind fun v5 ⟨h5, g5⟩ => ?_
    refine (put_ok (a := l2) (k := k) ⟨x0, _, x2, x3, x4, x5, e, p0, p1, p2, p3, p4, p5⟩ hk h5).bind fun v6 h6 => ?_
    refine (ok_turns g5 (by decide) (by decide) (by decide)).bind fun v7 ⟨h7, g7⟩ => ?_
    refine Ok.bind (P := fun o => ∃ s', o = .nx s' ∧ True) (ok_forF (fun _ => True) v7.1 v7.2 trivial fun x s hx _ => ?_) fun o ⟨s', e, _⟩ => ?_
    · obtain ⟨q1, q2⟩ := h7 x hx
      obtain ⟨j, rfl⟩ := Int.eq_ofNat_of_zero_le q1
      have hj : j < 9 := by omega
      refine Ok.bind (P := fun o => ∃ s', o = .nx s' ∧ True) (ok_forF (fun _ => True) [l2, v6, l2] () trivial fun y s hy _ => ?_) fun o ⟨s', e, _⟩ => ?_
      · have hy : AskP y := by
          simp only [List.mem_cons, List.not_mem_nil, or_false] at hy
          rcases hy with rfl | rfl | rfl
          · exact ⟨x0, _, x2, x3, x4, x5, e, p0, p1, p2, p3, p4, p5⟩
          · exact h6
          · exact ⟨x0, _, x2, x3, x4, x5, e, p0, p1, p2, p3, p4, p5⟩
        obtain ⟨u, e1, e2, pl⟩ := door_ok hy hj
        rw [e1]
        show Ok (m_law_due j y >>= _) _
        rw [e2]
        show Ok (m_law_same 6 u u >>= _) _
        rw [same_ok 6 u pl]
        exact ⟨_, rfl, (), rfl, trivial⟩
      · subst e
        exact ⟨_, rfl, s, rfl, trivial⟩
    · subst e
      exact ⟨_, rfl, rfl⟩
  obtain ⟨v, e, rfl⟩ := this
  exact e
end K00

set_option maxHeartbeats 0
namespace K00
open PySem PySem.Spec PyProof.Rows L2 Ty
def d_lowest : He.DefD := ⟨("lowest", none), "lowest", "lowest", defArgs st_lowest, defBody st_lowest, defScope st_lowest, [], []⟩
def d_plus : He.DefD := ⟨("plus", none), "plus", "plus", defArgs st_plus, defBody st_plus, defScope st_plus, [], []⟩
def d_minus : He.DefD := ⟨("minus", none), "minus", "minus", defArgs st_minus, defBody st_minus, defScope st_minus, [], []⟩
def d_times : He.DefD := ⟨("times", none), "times", "times", defArgs st_times, defBody st_times, defScope st_times, [], []⟩
def d_over : He.DefD := ⟨("over", none), "over", "over", defArgs st_over, defBody st_over, defScope st_over, [], []⟩
def d_is_less : He.DefD := ⟨("is_less", none), "is_less", "is_less", defArgs st_is_less, defBody st_is_less, defScope st_is_less, [], []⟩
def d_common : He.DefD := ⟨("common", none), "common", "common", defArgs st_common, defBody st_common, defScope st_common, [], []⟩
def d_is_wide_box : He.DefD := ⟨("is_wide_box", none), "is_wide_box", "is_wide_box", defArgs st_is_wide_box, defBody st_is_wide_box, defScope st_is_wide_box, [], []⟩
def d_mark_of : He.DefD := ⟨("mark_of", none), "mark_of", "mark_of", defArgs st_mark_of, defBody st_mark_of, defScope st_mark_of, [], []⟩
def d_is_wide : He.DefD := ⟨("is_wide", none), "is_wide", "is_wide", defArgs st_is_wide, defBody st_is_wide, defScope st_is_wide, [], []⟩
def d__law_tape : He.DefD := ⟨("_law_tape", none), "_law_tape", "_law_tape", defArgs st__law_tape, defBody st__law_tape, defScope st__law_tape, [], []⟩
def d__law_draw : He.DefD := ⟨("_law_draw", none), "_law_draw", "_law_draw", defArgs st__law_draw, defBody st__law_draw, defScope st__law_draw, [], []⟩
def d__law_pick : He.DefD := ⟨("_law_pick", none), "_law_pick", "_law_pick", defArgs st__law_pick, defBody st__law_pick, defScope st__law_pick, [], []⟩
def d__law_turns : He.DefD := ⟨("_law_turns", none), "_law_turns", "_law_turns", defArgs st__law_turns, defBody st__law_turns, defScope st__law_turns, [], []⟩
def d__law_put : He.DefD := ⟨("_law_put", none), "_law_put", "_law_put", defArgs st__law_put, defBody st__law_put, defScope st__law_put, [], []⟩
def d__law_same : He.DefD := ⟨("_law_same", none), "_law_same", "_law_same", defArgs st__law_same, defBody st__law_same, defScope st__law_same, [], []⟩
def d__law_low : He.DefD := ⟨("_law_low", none), "_law_low", "_law_low", defArgs st__law_low, defBody st__law_low, defScope st__law_low, [], []⟩
def d__law_plus : He.DefD := ⟨("_law_plus", none), "_law_plus", "_law_plus", defArgs st__law_plus, defBody st__law_plus, defScope st__law_plus, [], []⟩
def d__law_minus : He.DefD := ⟨("_law_minus", none), "_law_minus", "_law_minus", defArgs st__law_minus, defBody st__law_minus, defScope st__law_minus, [], []⟩
def d__law_times : He.DefD := ⟨("_law_times", none), "_law_times", "_law_times", defArgs st__law_times, defBody st__law_times, defScope st__law_times, [], []⟩
def d__law_over : He.DefD := ⟨("_law_over", none), "_law_over", "_law_over", defArgs st__law_over, defBody st__law_over, defScope st__law_over, [], []⟩
def d__law_less : He.DefD := ⟨("_law_less", none), "_law_less", "_law_less", defArgs st__law_less, defBody st__law_less, defScope st__law_less, [], []⟩
def d__law_most : He.DefD := ⟨("_law_most", none), "_law_most", "_law_most", defArgs st__law_most, defBody st__law_most, defScope st__law_most, [], []⟩
def d__law_fraction : He.DefD := ⟨("_law_fraction", none), "_law_fraction", "_law_fraction", defArgs st__law_fraction, defBody st__law_fraction, defScope st__law_fraction, [], []⟩
def d__law_any : He.DefD := ⟨("_law_any", none), "_law_any", "_law_any", defArgs st__law_any, defBody st__law_any, defScope st__law_any, [], []⟩
def d__law_beside : He.DefD := ⟨("_law_beside", none), "_law_beside", "_law_beside", defArgs st__law_beside, defBody st__law_beside, defScope st__law_beside, [], []⟩
def d__law_box : He.DefD := ⟨("_law_box", none), "_law_box", "_law_box", defArgs st__law_box, defBody st__law_box, defScope st__law_box, [], []⟩
def d__law_two_integers : He.DefD := ⟨("_law_two_integers", none), "_law_two_integers", "_law_two_integers", defArgs st__law_two_integers, defBody st__law_two_integers, defScope st__law_two_integers, [], []⟩
def d__law_part_of_asking : He.DefD := ⟨("_law_part_of_asking", none), "_law_part_of_asking", "_law_part_of_asking", defArgs st__law_part_of_asking, defBody st__law_part_of_asking, defScope st__law_part_of_asking, [], []⟩
def d__law_asking : He.DefD := ⟨("_law_asking", none), "_law_asking", "_law_asking", defArgs st__law_asking, defBody st__law_asking, defScope st__law_asking, [], []⟩
def d__law_side : He.DefD := ⟨("_law_side", none), "_law_side", "_law_side", defArgs st__law_side, defBody st__law_side, defScope st__law_side, [], []⟩
def d__law_due : He.DefD := ⟨("_law_due", none), "_law_due", "_law_due", defArgs st__law_due, defBody st__law_due, defScope st__law_due, [], []⟩
def d__law_told : He.DefD := ⟨("_law_told", none), "_law_told", "_law_told", defArgs st__law_told, defBody st__law_told, defScope st__law_told, [], []⟩
def d_law : He.DefD := ⟨("law", none), "law", "law", defArgs st_law, defBody st_law, defScope st_law, [], []⟩
def fn : List He.DefD := [d_lowest, d_plus, d_minus, d_times, d_over, d_is_less, d_common, d_is_wide_box, d_mark_of, d_is_wide, d__law_tape, d__law_draw, d__law_pick, d__law_turns, d__law_put, d__law_same, d__law_low, d__law_plus, d__law_minus, d__law_times, d__law_over, d__law_less, d__law_most, d__law_fraction, d__law_any, d__law_beside, d__law_box, d__law_two_integers, d__law_part_of_asking, d__law_asking, d__law_side, d__law_due, d__law_told, d_law]
def fa : List He.Fa := [.glo "lowest", .glo "plus", .glo "minus", .glo "times", .glo "over", .glo "is_less", .glo "common", .glo "is_wide_box", .glo "mark_of", .glo "is_wide", .glo "_law_tape", .glo "_law_draw", .glo "_law_pick", .glo "_law_turns", .glo "_law_put", .glo "_law_same", .glo "_law_low", .glo "_law_plus", .glo "_law_minus", .glo "_law_times", .glo "_law_over", .glo "_law_less", .glo "_law_most", .glo "_law_fraction", .glo "_law_any", .glo "_law_beside", .glo "_law_box", .glo "_law_two_integers", .glo "_law_part_of_asking", .glo "_law_asking", .glo "_law_side", .glo "_law_due", .glo "_law_told", .glo "law", .free "abs", .free "all", .free "bool", .free "int", .free "isinstance", .free "len", .free "list", .free "max", .free "range", .free "str", .free "tuple", .glo "EDGES"]
def ex (K : Frag) : Bool := bltB K "gcd" "math.gcd" && bltB K "lcm" "math.lcm" && He.tupB K "EDGES" [.str "west", .str "south", .str "east", .str "north"] && tupO K "EDGES"
abbrev R : PySem.W.OpenRow := PySem.W.OpenLaw.row PySem.Challenge.rw_wherehouse_k00_fractions_and_marks
abbrev hk : PySem.W.Hook := He.hookX 4 fa fn [] [] ex
def ob (s : PySem.W.SharedT) : He.AlX := He.obsX 4 fa fn [] [] ex (HandSHeadRun.getT s)
theorem ob_eq (s : PySem.W.SharedT) : ob s = hk.obs s.abs := He.obsX_eq (HandSHeadRun.getT_eq s)
def loose0 : List Str := ["lowest", "plus", "minus", "times", "over", "is_less", "common", "is_wide_box", "mark_of", "is_wide", "_law_tape", "_law_draw", "_law_pick", "_law_turns", "_law_put", "_law_same", "_law_low", "_law_plus", "_law_minus", "_law_times", "_law_over", "_law_less", "_law_most", "_law_fraction", "_law_any", "_law_beside", "_law_box", "_law_two_integers", "_law_part_of_asking", "_law_asking"]
def loose1 : List Str := ["_law_side", "_law_due", "_law_told", "EDGES"]
def loose : List Str := loose0 ++ loose1
theorem run (w : World) : HandSHeadRun.RunEqI R (PySem.W.view R.prog [0, 39]) hk ob 2000 loose w := by
  delta HandSHeadRun.RunEqI
  kernel_rfl
theorem facts {P : Program} {w : World} {K : Frag} {h : Heap} {mg : Str → Option Value} {f : Addr} (X : K.In h) (G : h.Ns mainGlobals mg) (hfa : mg ("law" : Str) = some (.ref f)) (c : He.SaysX fa fn [] [] ex w h K) :
    ∃ fd : FuncData, (∀ (s : Shared) (v : Value), BindsTo s fd ⟨[v], []⟩ [("script", v)]) ∧ ∀ base : Heap, K.In base → base.Ns mainGlobals mg → FnOk P w K mg base CX0 9 f fd ["script"] (spP K (tc1 cScr) (fun x => m_law x) cBool) := by
  obtain ⟨fd_lowest, D_lowest⟩ := c.t.d.def_ 0 (d := d_lowest) rfl
  obtain ⟨fd_plus, D_plus⟩ := c.t.d.def_ 1 (d := d_plus) rfl
  obtain ⟨fd_minus, D_minus⟩ := c.t.d.def_ 2 (d := d_minus) rfl
  obtain ⟨fd_times, D_times⟩ := c.t.d.def_ 3 (d := d_times) rfl
  obtain ⟨fd_over, D_over⟩ := c.t.d.def_ 4 (d := d_over) rfl
  obtain ⟨fd_is_less, D_is_less⟩ := c.t.d.def_ 5 (d := d_is_less) rfl
  obtain ⟨fd_common, D_common⟩ := c.t.d.def_ 6 (d := d_common) rfl
  obtain ⟨fd_is_wide_box, D_is_wide_box⟩ := c.t.d.def_ 7 (d := d_is_wide_box) rfl
  obtain ⟨fd_mark_of, D_mark_of⟩ := c.t.d.def_ 8 (d := d_mark_of) rfl
  obtain ⟨fd_is_wide, D_is_wide⟩ := c.t.d.def_ 9 (d := d_is_wide) rfl
  obtain ⟨fd__law_tape, D__law_tape⟩ := c.t.d.def_ 10 (d := d__law_tape) rfl
  obtain ⟨fd__law_draw, D__law_draw⟩ := c.t.d.def_ 11 (d := d__law_draw) rfl
  obtain ⟨fd__law_pick, D__law_pick⟩ := c.t.d.def_ 12 (d := d__law_pick) rfl
  obtain ⟨fd__law_turns, D__law_turns⟩ := c.t.d.def_ 13 (d := d__law_turns) rfl
  obtain ⟨fd__law_put, D__law_put⟩ := c.t.d.def_ 14 (d := d__law_put) rfl
  obtain ⟨fd__law_same, D__law_same⟩ := c.t.d.def_ 15 (d := d__law_same) rfl
  obtain ⟨fd__law_low, D__law_low⟩ := c.t.d.def_ 16 (d := d__law_low) rfl
  obtain ⟨fd__law_plus, D__law_plus⟩ := c.t.d.def_ 17 (d := d__law_plus) rfl
  obtain ⟨fd__law_minus, D__law_minus⟩ := c.t.d.def_ 18 (d := d__law_minus) rfl
  obtain ⟨fd__law_times, D__law_times⟩ := c.t.d.def_ 19 (d := d__law_times) rfl
  obtain ⟨fd__law_over, D__law_over⟩ := c.t.d.def_ 20 (d := d__law_over) rfl
  obtain ⟨fd__law_less, D__law_less⟩ := c.t.d.def_ 21 (d := d__law_less) rfl
  obtain ⟨fd__law_most, D__law_most⟩ := c.t.d.def_ 22 (d := d__law_most) rfl
  obtain ⟨fd__law_fraction, D__law_fraction⟩ := c.t.d.def_ 23 (d := d__law_fraction) rfl
  obtain ⟨fd__law_any, D__law_any⟩ := c.t.d.def_ 24 (d := d__law_any) rfl
  obtain ⟨fd__law_beside, D__law_beside⟩ := c.t.d.def_ 25 (d := d__law_beside) rfl
  obtain ⟨fd__law_box, D__law_box⟩ := c.t.d.def_ 26 (d := d__law_box) rfl
  obtain ⟨fd__law_two_integers, D__law_two_integers⟩ := c.t.d.def_ 27 (d := d__law_two_integers) rfl
  obtain ⟨fd__law_part_of_asking, D__law_part_of_asking⟩ := c.t.d.def_ 28 (d := d__law_part_of_asking) rfl
  obtain ⟨fd__law_asking, D__law_asking⟩ := c.t.d.def_ 29 (d := d__law_asking) rfl
  obtain ⟨fd__law_side, D__law_side⟩ := c.t.d.def_ 30 (d := d__law_side) rfl
  obtain ⟨fd__law_due, D__law_due⟩ := c.t.d.def_ 31 (d := d__law_due) rfl
  obtain ⟨fd__law_told, D__law_told⟩ := c.t.d.def_ 32 (d := d__law_told) rfl
  obtain ⟨fd_law, D_law⟩ := c.t.d.def_ 33 (d := d_law) rfl
  have g_lowest := He.glo_ok X G (c.t.d.fact 0 (f := .glo "lowest") rfl)
  have g_plus := He.glo_ok X G (c.t.d.fact 1 (f := .glo "plus") rfl)
  have g_minus := He.glo_ok X G (c.t.d.fact 2 (f := .glo "minus") rfl)
  have g_times := He.glo_ok X G (c.t.d.fact 3 (f := .glo "times") rfl)
  have g_over := He.glo_ok X G (c.t.d.fact 4 (f := .glo "over") rfl)
  have g_is_less := He.glo_ok X G (c.t.d.fact 5 (f := .glo "is_less") rfl)
  have g_common := He.glo_ok X G (c.t.d.fact 6 (f := .glo "common") rfl)
  have g_is_wide_box := He.glo_ok X G (c.t.d.fact 7 (f := .glo "is_wide_box") rfl)
  have g_mark_of := He.glo_ok X G (c.t.d.fact 8 (f := .glo "mark_of") rfl)
  have g_is_wide := He.glo_ok X G (c.t.d.fact 9 (f := .glo "is_wide") rfl)
  have g__law_tape := He.glo_ok X G (c.t.d.fact 10 (f := .glo "_law_tape") rfl)
  have g__law_draw := He.glo_ok X G (c.t.d.fact 11 (f := .glo "_law_draw") rfl)
  have g__law_pick := He.glo_ok X G (c.t.d.fact 12 (f := .glo "_law_pick") rfl)
  have g__law_turns := He.glo_ok X G (c.t.d.fact 13 (f := .glo "_law_turns") rfl)
  have g__law_put := He.glo_ok X G (c.t.d.fact 14 (f := .glo "_law_put") rfl)
  have g__law_same := He.glo_ok X G (c.t.d.fact 15 (f := .glo "_law_same") rfl)
  have g__law_low := He.glo_ok X G (c.t.d.fact 16 (f := .glo "_law_low") rfl)
  have g__law_plus := He.glo_ok X G (c.t.d.fact 17 (f := .glo "_law_plus") rfl)
  have g__law_minus := He.glo_ok X G (c.t.d.fact 18 (f := .glo "_law_minus") rfl)
  have g__law_times := He.glo_ok X G (c.t.d.fact 19 (f := .glo "_law_times") rfl)
  have g__law_over := He.glo_ok X G (c.t.d.fact 20 (f := .glo "_law_over") rfl)
  have g__law_less := He.glo_ok X G (c.t.d.fact 21 (f := .glo "_law_less") rfl)
  have g__law_most := He.glo_ok X G (c.t.d.fact 22 (f := .glo "_law_most") rfl)
  have g__law_fraction := He.glo_ok X G (c.t.d.fact 23 (f := .glo "_law_fraction") rfl)
  have g__law_any := He.glo_ok X G (c.t.d.fact 24 (f := .glo "_law_any") rfl)
  have g__law_beside := He.glo_ok X G (c.t.d.fact 25 (f := .glo "_law_beside") rfl)
  have g__law_box := He.glo_ok X G (c.t.d.fact 26 (f := .glo "_law_box") rfl)
  have g__law_two_integers := He.glo_ok X G (c.t.d.fact 27 (f := .glo "_law_two_integers") rfl)
  have g__law_part_of_asking := He.glo_ok X G (c.t.d.fact 28 (f := .glo "_law_part_of_asking") rfl)
  have g__law_asking := He.glo_ok X G (c.t.d.fact 29 (f := .glo "_law_asking") rfl)
  have g__law_side := He.glo_ok X G (c.t.d.fact 30 (f := .glo "_law_side") rfl)
  have g__law_due := He.glo_ok X G (c.t.d.fact 31 (f := .glo "_law_due") rfl)
  have g__law_told := He.glo_ok X G (c.t.d.fact 32 (f := .glo "_law_told") rfl)
  have e := hfa.symm.trans (He.glo_ok X G (c.t.d.fact 33 (f := .glo "law") rfl))
  cases e
  have m := c.more
  simp only [ex, Bool.and_eq_true] at m
  obtain ⟨⟨⟨x0, x1⟩, x2⟩, x3⟩ := m
  have T : Txt K mg := ⟨He.free_ok X G (c.t.d.fact 34 (f := .free "abs") rfl), He.free_ok X G (c.t.d.fact 35 (f := .free "all") rfl), He.free_ok X G (c.t.d.fact 36 (f := .free "bool") rfl), He.free_ok X G (c.t.d.fact 37 (f := .free "int") rfl), He.free_ok X G (c.t.d.fact 38 (f := .free "isinstance") rfl), He.free_ok X G (c.t.d.fact 39 (f := .free "len") rfl), He.free_ok X G (c.t.d.fact 40 (f := .free "list") rfl), He.free_ok X G (c.t.d.fact 41 (f := .free "max") rfl), He.free_ok X G (c.t.d.fact 42 (f := .free "range") rfl), He.free_ok X G (c.t.d.fact 43 (f := .free "str") rfl), He.free_ok X G (c.t.d.fact 44 (f := .free "tuple") rfl), bltB_ok X G x0, bltB_ok X G x1, tupO_ok X G (c.t.d.fact 45 (f := .glo "EDGES") rfl) (fun W => He.tupB_ok x2 W) x3⟩
  refine ⟨fd_law, fun s v => FunD.bindsA (ps := ["script"]) D_law (fun _ _ _ _ _ _ us hl => match us, hl with | [_], _ => rfl) s [v] rfl, fun base _ _ => ?_⟩
  have F_lowest : FnP P w K mg base "lowest" (1) ["n", "d"] (spP K (tcC cInt (tc1 cInt)) (fun x => m_lowest x.1 x.2) (cTup (tcC cInt (tc1 cInt)))) := ok_lowest T D_lowest g_lowest
  have F_plus : FnP P w K mg base "plus" (2) ["p", "q"] (spP K (tcC (cTup (tcC cInt (tc1 cInt))) (tc1 (cTup (tcC cInt (tc1 cInt))))) (fun x => m_plus x.1 x.2) (cTup (tcC cInt (tc1 cInt)))) := ok_plus T D_plus g_plus F_lowest
  have F_minus : FnP P w K mg base "minus" (2) ["p", "q"] (spP K (tcC (cTup (tcC cInt (tc1 cInt))) (tc1 (cTup (tcC cInt (tc1 cInt))))) (fun x => m_minus x.1 x.2) (cTup (tcC cInt (tc1 cInt)))) := ok_minus T D_minus g_minus F_lowest
  have F_times : FnP P w K mg base "times" (2) ["p", "q"] (spP K (tcC (cTup (tcC cInt (tc1 cInt))) (tc1 (cTup (tcC cInt (tc1 cInt))))) (fun x => m_times x.1 x.2) (cTup (tcC cInt (tc1 cInt)))) := ok_times T D_times g_times F_lowest
  have F_over : FnP P w K mg base "over" (2) ["p", "q"] (spP K (tcC (cTup (tcC cInt (tc1 cInt))) (tc1 (cTup (tcC cInt (tc1 cInt))))) (fun x => m_over x.1 x.2) (cTup (tcC cInt (tc1 cInt)))) := ok_over T D_over g_over F_lowest
  have F_is_less : FnP P w K mg base "is_less" (1) ["p", "q"] (spP K (tcC (cTup (tcC cInt (tc1 cInt))) (tc1 (cTup (tcC cInt (tc1 cInt))))) (fun x => m_is_less x.1 x.2) cBool) := ok_is_less T D_is_less g_is_less
  have F_common : FnP P w K mg base "common" (1) ["fractions"] (spP K (tc1 (cSeq (cTup (tcC cInt (tc1 cInt))))) (fun x => m_common x) cInt) := ok_common T D_common g_common
  have F_is_wide_box : FnP P w K mg base "is_wide_box" (2) ["box"] (spP K (tc1 (cTup (tcC (cTup (tcC cInt (tc1 cInt))) (tcC (cTup (tcC cInt (tc1 cInt))) (tcC (cTup (tcC cInt (tc1 cInt))) (tc1 (cTup (tcC cInt (tc1 cInt))))))))) (fun x => m_is_wide_box x) cBool) := ok_is_wide_box T D_is_wide_box g_is_wide_box F_is_less
  have F_mark_of : FnP P w K mg base "mark_of" (3) ["box", "mark"] (spP K (tcC (cTup (tcC (cTup (tcC cInt (tc1 cInt))) (tcC (cTup (tcC cInt (tc1 cInt))) (tcC (cTup (tcC cInt (tc1 cInt))) (tc1 (cTup (tcC cInt (tc1 cInt)))))))) (tc1 cStr)) (fun x => m_mark_of x.1 x.2) (cTup (tcC cInt (tc1 cInt)))) := ok_mark_of T D_mark_of g_mark_of F_minus
  have F_is_wide : FnP P w K mg base "is_wide" (3) ["region"] (spP K (tc1 (cSeq (cTup (tcC (cTup (tcC cInt (tc1 cInt))) (tcC (cTup (tcC cInt (tc1 cInt))) (tcC (cTup (tcC cInt (tc1 cInt))) (tc1 (cTup (tcC cInt (tc1 cInt)))))))))) (fun x => m_is_wide x) cBool) := ok_is_wide T D_is_wide g_is_wide F_is_wide_box
  have F__law_tape : FnP P w K mg base "_law_tape" (1) ["script"] (spN K (tc1 cScr) (fun x => m_law_tape x) celT) := ok__law_tape T D__law_tape g__law_tape
  have F__law_draw : FnP P w K mg base "_law_draw" (1) ["tape", "many"] (spM K celT (tc1 cInt) (fun tp x => m_law_draw tp x) cInt) := ok__law_draw T D__law_draw g__law_draw
  have F__law_pick : ∀ {Aa : Type} (ca : Cod K Aa), FnP P w K mg base "_law_pick" (2) ["tape", "menu"] (spM K celT (tc1 (cLst ca)) (fun tp x => m_law_pick tp x) ca) := fun {_} ca => ok__law_pick ca T D__law_pick g__law_pick F__law_draw
  have F__law_turns : FnP P w K mg base "_law_turns" (2) ["tape", "many"] (spMN K celT (tc1 cInt) (fun tp x => m_law_turns tp x) (lstC cInt)) := ok__law_turns T D__law_turns g__law_turns F__law_draw
  have F__law_put : FnP P w K mg base "_law_put" (1) ["told", "place", "thing"] (spP K (tcC (cSeq cU) (tcC cInt (tc1 cU))) (fun x => m_law_put x.1 x.2.1 x.2.2) (cSeq cU)) := ok__law_put T D__law_put g__law_put
  have F__law_same : ∀ fuel : Nat, FnP P w K mg base "_law_same" (1 + fuel) ["told", "wanted"] (spP K (tcC cU (tc1 cU)) (fun x => m_law_same fuel x.1 x.2) cBool) := ok__law_same T D__law_same g__law_same
  have F__law_low : FnP P w K mg base "_law_low" (1) ["n", "d"] (spP K (tcC cInt (tc1 cInt)) (fun x => m_law_low x.1 x.2) (cTup (tcC cInt (tc1 cInt)))) := ok__law_low T D__law_low g__law_low
  have F__law_plus : FnP P w K mg base "_law_plus" (2) ["p", "q"] (spP K (tcC (cTup (tcC cInt (tc1 cInt))) (tc1 (cTup (tcC cInt (tc1 cInt))))) (fun x => m_law_plus x.1 x.2) (cTup (tcC cInt (tc1 cInt)))) := ok__law_plus T D__law_plus g__law_plus F__law_low
  have F__law_minus : FnP P w K mg base "_law_minus" (2) ["p", "q"] (spP K (tcC (cTup (tcC cInt (tc1 cInt))) (tc1 (cTup (tcC cInt (tc1 cInt))))) (fun x => m_law_minus x.1 x.2) (cTup (tcC cInt (tc1 cInt)))) := ok__law_minus T D__law_minus g__law_minus F__law_low
  have F__law_times : FnP P w K mg base "_law_times" (2) ["p", "q"] (spP K (tcC (cTup (tcC cInt (tc1 cInt))) (tc1 (cTup (tcC cInt (tc1 cInt))))) (fun x => m_law_times x.1 x.2) (cTup (tcC cInt (tc1 cInt)))) := ok__law_times T D__law_times g__law_times F__law_low
  have F__law_over : FnP P w K mg base "_law_over" (2) ["p", "q"] (spP K (tcC (cTup (tcC cInt (tc1 cInt))) (tc1 (cTup (tcC cInt (tc1 cInt))))) (fun x => m_law_over x.1 x.2) (cTup (tcC cInt (tc1 cInt)))) := ok__law_over T D__law_over g__law_over F__law_low
  have F__law_less : FnP P w K mg base "_law_less" (1) ["p", "q"] (spP K (tcC (cTup (tcC cInt (tc1 cInt))) (tc1 (cTup (tcC cInt (tc1 cInt))))) (fun x => m_law_less x.1 x.2) cBool) := ok__law_less T D__law_less g__law_less
  have F__law_most : FnP P w K mg base "_law_most" (1) ["p", "q"] (spP K (tcC (cTup (tcC cInt (tc1 cInt))) (tc1 (cTup (tcC cInt (tc1 cInt))))) (fun x => m_law_most x.1 x.2) cBool) := ok__law_most T D__law_most g__law_most
  have F__law_fraction : FnP P w K mg base "_law_fraction" (3) ["tape", "low", "high"] (spM K celT (tcC cInt (tc1 cInt)) (fun tp x => m_law_fraction tp x.1 x.2) (cTup (tcC cInt (tc1 cInt)))) := ok__law_fraction T D__law_fraction g__law_fraction F__law_pick F__law_low F__law_draw
  have F__law_any : FnP P w K mg base "_law_any" (4) ["tape"] (spM K celT tc0 (fun tp x => m_law_any tp) (cTup (tcC cInt (tc1 cInt)))) := ok__law_any T D__law_any g__law_any F__law_draw F__law_pick F__law_fraction F__law_low
  have F__law_beside : FnP P w K mg base "_law_beside" (5) ["tape", "p"] (spM K celT (tc1 (cTup (tcC cInt (tc1 cInt)))) (fun tp x => m_law_beside tp x) (cTup (tcC cInt (tc1 cInt)))) := ok__law_beside T D__law_beside g__law_beside F__law_draw F__law_low F__law_any
  have F__law_box : FnP P w K mg base "_law_box" (6) ["tape"] (spM K celT tc0 (fun tp x => m_law_box tp) (cTup (tcC (cTup (tcC cInt (tc1 cInt))) (tcC (cTup (tcC cInt (tc1 cInt))) (tcC (cTup (tcC cInt (tc1 cInt))) (tc1 (cTup (tcC cInt (tc1 cInt))))))))) := ok__law_box T D__law_box g__law_box F__law_any F__law_beside F__law_most
  have F__law_two_integers : FnP P w K mg base "_law_two_integers" (3) ["tape"] (spM K celT tc0 (fun tp x => m_law_two_integers tp) (cTup (tcC cInt (tc1 cInt)))) := ok__law_two_integers T D__law_two_integers g__law_two_integers F__law_draw F__law_pick
  have F__law_part_of_asking : FnP P w K mg base "_law_part_of_asking" (7) ["tape", "place", "p"] (spM K celT (tcC cInt (tc1 cU)) (fun tp x => m_law_part_of_asking tp x.1 x.2) cU) := ok__law_part_of_asking T D__law_part_of_asking g__law_part_of_asking F__law_two_integers F__law_any F__law_beside F__law_draw F__law_box F__law_pick
  have F__law_asking : FnP P w K mg base "_law_asking" (8) ["tape"] (spM K celT tc0 (fun tp x => m_law_asking tp) (cSeq cU)) := ok__law_asking T D__law_asking g__law_asking F__law_part_of_asking
  have F__law_side : FnP P w K mg base "_law_side" (3) ["box", "mark"] (spP K (tcC (cTup (tcC (cTup (tcC cInt (tc1 cInt))) (tcC (cTup (tcC cInt (tc1 cInt))) (tcC (cTup (tcC cInt (tc1 cInt))) (tc1 (cTup (tcC cInt (tc1 cInt)))))))) (tc1 cStr)) (fun x => m_law_side x.1 x.2) (cTup (tcC cInt (tc1 cInt)))) := ok__law_side T D__law_side g__law_side F__law_minus
  have F__law_due : FnP P w K mg base "_law_due" (4) ["door", "ask"] (spP K (tcC cInt (tc1 (cSeq cU))) (fun x => m_law_due x.1 x.2) cU) := ok__law_due T D__law_due g__law_due F__law_low F__law_plus F__law_minus F__law_times F__law_over F__law_less F__law_side
  have F__law_told : FnP P w K mg base "_law_told" (4) ["door", "ask"] (spP K (tcC cInt (tc1 (cSeq cU))) (fun x => m_law_told x.1 x.2) cU) := ok__law_told T D__law_told g__law_told F_lowest F_plus F_minus F_times F_over F_is_less F_common F_mark_of F_is_wide
  exact ok_law T D_law F__law_tape F__law_asking F__law_draw F__law_put F__law_part_of_asking F__law_turns F__law_same F__law_told F__law_due
end K00
open PySem PySem.W PySem.Calls PyProof.Rows
theorem PySem.Challenge.cw_wherehouse_k00_fractions_and_marks_holds : PySem.Challenge.rw_wherehouse_k00_fractions_and_marks.Holds := by
  w_on; o_law
  refine HandSHeadRun.head_imp (r := OpenLaw.row PySem.Challenge.rw_wherehouse_k00_fractions_and_marks) (q := view (OpenLaw.row PySem.Challenge.rw_wherehouse_k00_fractions_and_marks).prog [0, 39]) (H := K00.hk) (ob := K00.ob) (M := 2000) (loose := K00.loose) (d := HandSHeadRun.topDef (OpenLaw.row PySem.Challenge.rw_wherehouse_k00_fractions_and_marks).prog 39) (kwd := []) K00.ob_eq
    K00.run (by kernel_rfl) (by kernel_rfl) (by kernel_rfl) (by rfl) (by first | assumption | decide +kernel) (by decide +kernel) ⟨rfl, rfl, rfl, rfl, rfl, by decide +kernel⟩ ?hw ?hc
  case hw => w_witness2
  case hc =>
    refine L2.walk_ofE (l := PySem.Challenge.rw_wherehouse_k00_fractions_and_marks) (n := 63) (k := 9) (x := "script") (CX := L2.CX0) rfl (by decide) (by kernel_rfl) ⟨rfl, by decide, by decide⟩ ?F (fun _ _ _ _ z => z)
    intro w mg fa h Y G hmg0
    obtain ⟨K, KX, c⟩ := Y
    have hmg : mg ("law" : PySem.Str) = some (.ref fa) := by
      have e : (HandSHeadRun.topDef (OpenLaw.row PySem.Challenge.rw_wherehouse_k00_fractions_and_marks).prog 39).name = ("law" : PySem.Str) := by kernel_rfl
      rw [← e]
      exact hmg0
    obtain ⟨fd, hb, hF⟩ := K00.facts (P := (PySem.Challenge.rw_wherehouse_k00_fractions_and_marks).prog) (w := w) KX G hmg c
    exact ⟨K, fd, _, KX, hb, fun H a ns hl _ hS => ⟨H, ns, L2.Same.refl _, ⟨_, rfl, a, rfl, hS⟩, true, K00.law_ok ns hl, fun _ _ v _ h => h⟩, hF⟩

