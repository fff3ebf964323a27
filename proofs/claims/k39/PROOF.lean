import PyProof.Rows.All
import Wide.All
import OpenK.AllK
import Wide.FinOn
import KE.KStateDown
import HandS.ForMost
import HandS.Wide
import HandS.Gcd
import HandS.Conv
import HandS.HeadHook4
import HandS.Head2
import HandS.Head3
import HandS.HeadEnd
import HandS.IsInst
import HandS.Strs
import HandS.Defaults
import HandS.TupAny
import HandS.More
import HandS.HeadHook2
import HandS.SortInts
import HandS.SetFor
import HandS.HeadHook3
import PySem.Challenge.RW_wherehouse_k39_boxes_that_go_and_pass_cl
set_option Elab.async false
set_option linter.all false
set_option maxRecDepth 100000
set_option maxHeartbeats 4000000
/-! Typed evaluation over the hand layer: what an expression, a block gives, as plain Lean values. -/
namespace Ty
open PySem PySem.Spec PyProof.Rows L2

abbrev Frag := PySem.W.Frag
theorem Same.rd {H H' : Hp} {a : Addr} {u : HO} (e : Same H H') (h : Rd H a u) : Rd H' a u := by
  rcases h with h | ⟨o, h⟩
  · exact .inl (e _ _ h)
  · exact .inr ⟨o, e _ _ h⟩
theorem Same.tup {K : Frag} {H H' : Hp} {a : Addr} {xs : List V} (e : Same H H') (h : SqT K H a xs) : SqT K H' a xs := by
  rcases h with h | h
  · exact .inl (Same.rd e h)
  · exact .inr h

/-! ### values at large -/
inductive U where
  | non | bl (b : Bool) | int (i : Int) | str (s : Str) | tup (l : List U) | lst (l : List U) | opq
mutual
def rpU (K : Frag) (H : Hp) : U → V → Prop
  | .non, v => v = .non
  | .bl b, v => v = .bl b
  | .int i, v => v = .int i
  | .str s, v => v = .str s
  | .tup l, v => ∃ a vs, v = .ref a ∧ SqT K H a vs ∧ rpUs K H l vs
  | .lst l, v => ∃ a vs, v = .ref a ∧ H a = some (.lst vs) ∧ rpUs K H l vs
  | .opq, _ => True
def rpUs (K : Frag) (H : Hp) : List U → List V → Prop
  | [], vs => vs = []
  | u :: us, vs => ∃ v r, vs = v :: r ∧ rpU K H u v ∧ rpUs K H us r
end
mutual
theorem rpU.mono {K : Frag} {H H' : Hp} (e : Same H H') : ∀ {u : U} {v : V}, rpU K H u v → rpU K H' u v
  | .non, _, h => h
  | .bl _, _, h => h
  | .int _, _, h => h
  | .str _, _, h => h
  | .tup _, _, ⟨a, vs, h1, h2, h3⟩ => ⟨a, vs, h1, Same.tup e h2, rpUs.mono e h3⟩
  | .lst _, _, ⟨a, vs, h1, h2, h3⟩ => ⟨a, vs, h1, e _ _ h2, rpUs.mono e h3⟩
  | .opq, _, _ => trivial
theorem rpUs.mono {K : Frag} {H H' : Hp} (e : Same H H') : ∀ {us : List U} {vs : List V}, rpUs K H us vs → rpUs K H' us vs
  | [], _, h => h
  | _ :: _, _, ⟨v, r, h1, h2, h3⟩ => ⟨v, r, h1, rpU.mono e h2, rpUs.mono e h3⟩
end
theorem rpUs.length {K : Frag} {H : Hp} : ∀ {us : List U} {vs : List V}, rpUs K H us vs → vs.length = us.length
  | [], _, h => by cases h; rfl
  | _ :: _, _, ⟨v, r, h1, _, h3⟩ => by subst h1; simp [rpUs.length h3]

/-! ### codecs -/
/-- how values of a Lean type stand for Python's -/
structure Cod (K : Frag) (α : Type) where
  rp : Hp → V → α → Prop
  u : α → U
  mono : ∀ {H H' : Hp} {v : V} {x : α}, Same H H' → rp H v x → rp H' v x
  ru : ∀ {H : Hp} {v : V} {x : α}, rp H v x → rpU K H (u x) v
/-- codecs of rows of values -/
structure TC (K : Frag) (α : Type) where
  n : Nat
  rp : Hp → List V → α → Prop
  u : α → List U
  mono : ∀ {H H' : Hp} {vs : List V} {x : α}, Same H H' → rp H vs x → rp H' vs x
  ru : ∀ {H : Hp} {vs : List V} {x : α}, rp H vs x → rpUs K H (u x) vs
  len : ∀ {H : Hp} {vs : List V} {x : α}, rp H vs x → vs.length = n
section
variable {K : Frag}
def cInt : Cod K Int := ⟨fun _ v x => v = .int x, .int, fun _ h => h, fun h => h⟩
def cBool : Cod K Bool := ⟨fun _ v x => v = .bl x, .bl, fun _ h => h, fun h => h⟩
def cStr : Cod K Str := ⟨fun _ v x => v = .str x, .str, fun _ h => h, fun h => h⟩
def cNon : Cod K Unit := ⟨fun _ v _ => v = .non, fun _ => .non, fun _ h => h, fun h => h⟩
def cU : Cod K U := ⟨fun H v x => rpU K H x v, id, fun e h => h.mono e, fun h => h⟩
def tc0 : TC K Unit := ⟨0, fun _ vs _ => vs = [], fun _ => [], fun _ h => h, fun h => h, fun h => by rw [h]; rfl⟩
def tc1 {α : Type} (c : Cod K α) : TC K α := ⟨1, fun H vs x => ∃ v, vs = [v] ∧ c.rp H v x, fun x => [c.u x], fun e ⟨v, h, q⟩ => ⟨v, h, c.mono e q⟩, fun ⟨v, h, q⟩ => ⟨v, [], h, c.ru q, rfl⟩, fun ⟨v, h, _⟩ => by rw [h]; rfl⟩
def tcC {α β : Type} (c : Cod K α) (t : TC K β) : TC K (α × β) :=
  ⟨t.n + 1, fun H vs x => ∃ v r, vs = v :: r ∧ c.rp H v x.1 ∧ t.rp H r x.2, fun x => c.u x.1 :: t.u x.2, fun e ⟨v, r, h, q, q2⟩ => ⟨v, r, h, c.mono e q, t.mono e q2⟩,
    fun ⟨v, r, h, q, q2⟩ => ⟨v, r, h, c.ru q, t.ru q2⟩, fun ⟨v, r, h, _, q2⟩ => by rw [h, List.length_cons, t.len q2]⟩
/-- a tuple of fixed length -/
def cTup {α : Type} (t : TC K α) : Cod K α :=
  ⟨fun H v x => ∃ a vs, v = .ref a ∧ SqT K H a vs ∧ t.rp H vs x, fun x => .tup (t.u x), fun e ⟨a, vs, h, q, q2⟩ => ⟨a, vs, h, Same.tup e q, t.mono e q2⟩, fun ⟨a, vs, h, q, q2⟩ => ⟨a, vs, h, q, t.ru q2⟩⟩
/-- rows of one codec -/
inductive Row {α : Type} (c : Cod K α) (H : Hp) : List V → List α → Prop
  | nil : Row c H [] []
  | cons {v : V} {x : α} {vs : List V} {xs : List α} : c.rp H v x → Row c H vs xs → Row c H (v :: vs) (x :: xs)
theorem Row.mono {α : Type} {c : Cod K α} {H H' : Hp} (e : Same H H') : ∀ {vs : List V} {xs : List α}, Row c H vs xs → Row c H' vs xs
  | _, _, .nil => .nil
  | _, _, .cons h t => .cons (c.mono e h) (Row.mono e t)
theorem Row.ru {α : Type} {c : Cod K α} {H : Hp} : ∀ {vs : List V} {xs : List α}, Row c H vs xs → rpUs K H (xs.map c.u) vs
  | _, _, .nil => rfl
  | _, _, .cons h t => ⟨_, _, rfl, c.ru h, Row.ru t⟩
theorem Row.length {α : Type} {c : Cod K α} {H : Hp} : ∀ {vs : List V} {xs : List α}, Row c H vs xs → vs.length = xs.length
  | _, _, .nil => rfl
  | _, _, .cons _ t => by simp [Row.length t]
theorem Row.get {α : Type} {c : Cod K α} {H : Hp} : ∀ {vs : List V} {xs : List α} {i : Nat} {x : α}, Row c H vs xs → xs[i]? = some x → ∃ v, vs[i]? = some v ∧ c.rp H v x
  | _, _, _, _, .nil, e => by simp at e
  | _, _, 0, _, .cons h _, e => by simp at e; subst e; exact ⟨_, rfl, h⟩
  | _, _, i + 1, _, .cons _ t, e => by
    obtain ⟨v, h1, h2⟩ := Row.get (i := i) t (by simpa using e)
    exact ⟨v, by simpa using h1, h2⟩
theorem Row.get' {α : Type} {c : Cod K α} {H : Hp} : ∀ {vs : List V} {xs : List α} {i : Nat} {v : V}, Row c H vs xs → vs[i]? = some v → ∃ x, xs[i]? = some x ∧ c.rp H v x
  | _, _, _, _, .nil, e => by simp at e
  | _, _, 0, _, .cons h _, e => by simp at e; subst e; exact ⟨_, rfl, h⟩
  | _, _, i + 1, _, .cons _ t, e => by
    obtain ⟨x, h1, h2⟩ := Row.get' (i := i) t (by simpa using e)
    exact ⟨x, by simpa using h1, h2⟩
theorem Row.append {α : Type} {c : Cod K α} {H : Hp} : ∀ {vs ws : List V} {xs ys : List α}, Row c H vs xs → Row c H ws ys → Row c H (vs ++ ws) (xs ++ ys)
  | _, _, _, _, .nil, q => q
  | _, _, _, _, .cons h t, q => .cons h (Row.append t q)
theorem Row.take {α : Type} {c : Cod K α} {H : Hp} : ∀ {vs : List V} {xs : List α} (n : Nat), Row c H vs xs → Row c H (vs.take n) (xs.take n)
  | _, _, 0, _ => .nil
  | _, _, _ + 1, .nil => .nil
  | _, _, n + 1, .cons h t => .cons h (Row.take n t)
theorem Row.drop {α : Type} {c : Cod K α} {H : Hp} : ∀ {vs : List V} {xs : List α} (n : Nat), Row c H vs xs → Row c H (vs.drop n) (xs.drop n)
  | _, _, 0, h => h
  | _, _, _ + 1, .nil => .nil
  | _, _, n + 1, .cons _ t => Row.drop n t
theorem Row.set {α : Type} {c : Cod K α} {H : Hp} {v : V} {x : α} (h : c.rp H v x) : ∀ {vs : List V} {xs : List α} (n : Nat), Row c H vs xs → Row c H (vs.set n v) (xs.set n x)
  | _, _, _, .nil => .nil
  | _, _, 0, .cons _ t => .cons h t
  | _, _, n + 1, .cons q t => .cons q (Row.set h n t)
theorem Row.erase {α : Type} {c : Cod K α} {H : Hp} : ∀ {vs : List V} {xs : List α} (n : Nat), Row c H vs xs → Row c H (vs.eraseIdx n) (xs.eraseIdx n)
  | _, _, _, .nil => .nil
  | _, _, 0, .cons _ t => t
  | _, _, n + 1, .cons q t => .cons q (Row.erase n t)
/-- a tuple, a list (that stands still) of any length -/
def cSeq {α : Type} (c : Cod K α) : Cod K (List α) :=
  ⟨fun H v x => ∃ a vs, v = .ref a ∧ SqT K H a vs ∧ Row c H vs x, fun x => .tup (x.map c.u), fun e ⟨a, vs, h, q, q2⟩ => ⟨a, vs, h, Same.tup e q, q2.mono e⟩, fun ⟨a, vs, h, q, q2⟩ => ⟨a, vs, h, q, q2.ru⟩⟩
def cLst {α : Type} (c : Cod K α) : Cod K (List α) :=
  ⟨fun H v x => ∃ a vs, v = .ref a ∧ H a = some (.lst vs) ∧ Row c H vs x, fun x => .lst (x.map c.u), fun e ⟨a, vs, h, q, q2⟩ => ⟨a, vs, h, e _ _ q, q2.mono e⟩, fun ⟨a, vs, h, q, q2⟩ => ⟨a, vs, h, q, q2.ru⟩⟩
/-- None, or such a value (that is never None) -/
def cOpt {α : Type} (c : Cod K α) : Cod K (Option α) :=
  ⟨fun H v x => match x with | none => v = .non | some y => v ≠ .non ∧ c.rp H v y, fun x => match x with | none => .non | some y => c.u y,
    fun {H H' v x} e h => match x, h with | none, h => h | some _, ⟨h, q⟩ => ⟨h, c.mono e q⟩, fun {H v x} h => match x, h with | none, h => h | some _, ⟨_, q⟩ => c.ru q⟩

/-- the i-th place of a row -/
structure Nth {α β : Type} (t : TC K α) (i : Nat) (c : Cod K β) (p : α → β) : Prop where
  get : ∀ {H : Hp} {vs : List V} {x : α}, t.rp H vs x → ∃ v, vs[i]? = some v ∧ c.rp H v (p x)
theorem nthL {α : Type} {c : Cod K α} : Nth (tc1 c) 0 c (fun x => x) := ⟨fun ⟨v, h, q⟩ => ⟨v, by rw [h]; rfl, q⟩⟩
theorem nthZ {α β : Type} {c : Cod K α} {t : TC K β} : Nth (tcC c t) 0 c (fun x => x.1) := ⟨fun ⟨v, r, h, q, _⟩ => ⟨v, by rw [h]; rfl, q⟩⟩
theorem nthS {α β γ : Type} {c : Cod K α} {t : TC K β} {i : Nat} {d : Cod K γ} {p : β → γ} (h : Nth t i d p) : Nth (tcC c t) (i + 1) d (fun x => p x.2) := ⟨fun ⟨v, r, e, _, q⟩ => by
  obtain ⟨w, h1, h2⟩ := h.get q
  exact ⟨w, by rw [e]; simpa using h1, h2⟩⟩
end

/-! ### cells: what a local name owns -/
structure Cel (K : Frag) (α : Type) where
  ct : Hp → HO → α → Prop
  mono : ∀ {H H' : Hp} {o : HO} {x : α}, Same H H' → ct H o x → ct H' o x
  nt : ∀ {H : Hp} {o : HO} {x : α}, ct H o x → Mut (some o)
def lstC {K : Frag} {α : Type} (c : Cod K α) : Cel K (List α) := ⟨fun H o x => ∃ vs, o = .lst vs ∧ Row c H vs x, fun e ⟨vs, h, q⟩ => ⟨vs, h, q.mono e⟩, fun ⟨_, h, _⟩ => by rw [h]; trivial⟩

inductive Ent (K : Frag) : Type 1 where
  | no
  | im {α : Type} (c : Cod K α) (x : α)
  | ow {α : Type} (c : Cel K α) (x : α)
  /-- the name of what is lent; what is lent (at a place of its own behind the names) -/
  | lp
  | ln {α : Type} (c : Cel K α) (x : α)
abbrev En (K : Frag) := List (Ent K)
def Ent.isOw {K : Frag} : Ent K → Bool
  | .ow _ _ => true
  | _ => false
/-- the heap at the entry and its part that stands still; what is lent to be changed -/
structure Ct where
  W : Hp
  H : Hp
  B : Addr → Prop
  a : Option Addr
def Ent.at {K : Frag} (C : Ct) (e : Ent K) (s : Option V) (W H : Hp) : Prop := match e with
  | .no => True
  | .im c x => ∃ v, s = some v ∧ c.rp W v x
  | .ow c x => ∃ a o, s = some (.ref a) ∧ W a = none ∧ (C.H a = none ∨ C.B a) ∧ H a = some o ∧ c.ct W o x
  | .lp => ∃ a, C.a = some a ∧ s = some (.ref a)
  | .ln c x => ∃ a o, C.a = some a ∧ W a = none ∧ H a = some o ∧ c.ct W o x
def own {K : Frag} (Γ : En K) (i : Nat) : Prop := ∃ e, Γ[i]? = some e ∧ e.isOw = true

def drops0 {K : Frag} : List Nat → En K → En K
  | [], Γ => Γ
  | i :: is, Γ => drops0 is (Γ.set i .no)
structure Sat {K : Frag} (C : Ct) (Γ : En K) (σ : L2.St) (W H : Hp) : Prop where
  sl : ∀ (i : Nat) (e : Ent K), Γ[i]? = some e → e.at C (σ[i]?.getD none) W H
  ap : ∀ (i j : Nat) (a : Addr), i ≠ j → own Γ i → own Γ j → σ[i]? = some (some (.ref a)) → σ[j]? ≠ some (some (.ref a))
  sub : Same W H
  old : Same C.W W
  la : ∀ i a, C.a = some a → own Γ i → σ[i]? ≠ some (some (.ref a))
  fr : ∀ a o, C.H a = some o → ¬ C.B a → C.a ≠ some a → H a = some o
  li : ∀ a, C.H a ≠ none → H a ≠ none
  nw : ∀ a, C.H a ≠ none → C.W a = none → W a = none
  lb : ∀ a, C.B a ∨ C.a = some a → H a ≠ none
/-- both heaps grow, nothing changes -/
structure Grow (W H W' H' : Hp) : Prop where
  w : Same W W'
  h : Same H H'
  sub : Same W' H'
  nw : ∀ a, H a ≠ none → W a = none → W' a = none
section
variable {K : Frag} {C : Ct} {Γ : En K} {σ : L2.St} {W H W' H' : Hp}
theorem Same.nn {a : Addr} (e : Same H H') (h : H a ≠ none) : H' a ≠ none := fun z => by
  cases q : H a with
  | none => exact h q
  | some o => have := e a o q; rw [z] at this; cases this
theorem Grow.refl (h : Same W H) : Grow W H W H := ⟨Same.refl _, Same.refl _, h, fun _ _ h => h⟩
theorem Grow.trans {W2 H2 : Hp} (a : Grow W H W' H') (b : Grow W' H' W2 H2) : Grow W H W2 H2 :=
  ⟨a.w.trans b.w, a.h.trans b.h, b.sub, fun x h1 h2 => b.nw x (Same.nn a.h h1) (a.nw x h1 h2)⟩
/-- a new object that stands still -/
theorem Grow.new {p : Addr} {o : HO} (s : Same W H) (hp : H p = none) : Grow W H (upd W p o) (upd H p o) := by
  have wp : W p = none := s.free hp
  refine ⟨fun b u e => ?_, fun b u e => ?_, fun b u e => ?_, fun b h1 h2 => ?_⟩
  · rw [upd_ne (ne_of_none e wp)]; exact e
  · rw [upd_ne (ne_of_none e hp)]; exact e
  · by_cases hb : b = p
    · subst hb; rw [upd_same] at e ⊢; exact e
    · rw [upd_ne hb] at e ⊢; exact s b u e
  · have hb : b ≠ p := fun z => by subst z; exact h1 hp
    rw [upd_ne hb]; exact h2
theorem Ent.grow {e : Ent K} {s : Option V} (g : Grow W H W' H') (h : e.at C s W H) : e.at C s W' H' := by
  cases e with
  | no => trivial
  | im c x => obtain ⟨v, h1, h2⟩ := h; exact ⟨v, h1, c.mono g.w h2⟩
  | ow c x =>
    obtain ⟨a, o, h1, h2, h3, h4, h5⟩ := h
    exact ⟨a, o, h1, g.nw a (by rw [h4]; simp) h2, h3, g.h _ _ h4, c.mono g.w h5⟩
  | lp => exact h
  | ln c x =>
    obtain ⟨a, o, h1, h2, h4, h5⟩ := h
    exact ⟨a, o, h1, g.nw a (by rw [h4]; simp) h2, g.h _ _ h4, c.mono g.w h5⟩
theorem Sat.grow (s : Sat C Γ σ W H) (g : Grow W H W' H') : Sat C Γ σ W' H' where
  sl := fun i e h => Ent.grow g (s.sl i e h)
  ap := s.ap
  sub := g.sub
  old := s.old.trans g.w
  la := s.la
  fr := fun a o h hb ha => g.h _ _ (s.fr a o h hb ha)
  li := fun a h => Same.nn g.h (s.li a h)
  nw := fun a h1 h2 => g.nw a (s.li a h1) (s.nw a h1 h2)
  lb := fun a h => Same.nn g.h (s.lb a h)
theorem own_ne {i j : Nat} {e : Ent K} (h : own (Γ.set i e) j) (hj : j ≠ i) : own Γ j := by
  obtain ⟨u, h1, h2⟩ := h
  rw [List.getElem?_set_ne (Ne.symm hj)] at h1
  exact ⟨u, h1, h2⟩
theorem own_no {i : Nat} {e : Ent K} (he : e.isOw = false) : ¬ own (Γ.set i e) i := fun ⟨u, h1, h2⟩ => by
  by_cases hi : i < Γ.length
  · rw [List.getElem?_set_self hi] at h1
    have := Option.some.inj h1
    rw [← this, he] at h2; cases h2
  · rw [List.getElem?_eq_none (by rw [List.length_set]; omega)] at h1; cases h1
/-- a name is given a value (that stands still) -/
theorem Sat.put {i : Nat} {α : Type} {c : Cod K α} {x : α} {v : V} (s : Sat C Γ σ W H) (hi : i < σ.length) (h : c.rp W v x) : Sat C (Γ.set i (.im c x)) (σ.set i (some v)) W H where
  sl := fun j e q => by
    by_cases hj : j = i
    · subst hj
      by_cases hl : j < Γ.length
      · rw [List.getElem?_set_self hl] at q
        have := Option.some.inj q; subst this
        rw [List.getElem?_set_self hi]
        exact ⟨v, rfl, h⟩
      · rw [List.getElem?_eq_none (by rw [List.length_set]; omega)] at q; cases q
    · rw [List.getElem?_set_ne (Ne.symm hj)] at q ⊢
      exact s.sl j e q
  ap := fun j k a hjk hj hk e1 => by
    have nj : j ≠ i := fun z => by subst z; exact own_no rfl hj
    have nk : k ≠ i := fun z => by subst z; exact own_no rfl hk
    rw [List.getElem?_set_ne (Ne.symm nj)] at e1
    rw [List.getElem?_set_ne (Ne.symm nk)]
    exact s.ap j k a hjk (own_ne hj nj) (own_ne hk nk) e1
  sub := s.sub
  old := s.old
  la := fun j a ha hj => by
    have nj : j ≠ i := fun z => by subst z; exact own_no rfl hj
    rw [List.getElem?_set_ne (Ne.symm nj)]
    exact s.la j a ha (own_ne hj nj)
  fr := s.fr
  li := s.li
  nw := s.nw
  lb := s.lb
/-- what is known of a name is forgotten -/
theorem Sat.drop (i : Nat) (s : Sat C Γ σ W H) : Sat C (Γ.set i .no) σ W H where
  sl := fun j e q => by
    by_cases hj : j = i
    · subst hj
      by_cases hl : j < Γ.length
      · rw [List.getElem?_set_self hl] at q
        have := Option.some.inj q; subst this; trivial
      · rw [List.getElem?_eq_none (by rw [List.length_set]; omega)] at q; cases q
    · rw [List.getElem?_set_ne (Ne.symm hj)] at q
      exact s.sl j e q
  ap := fun j k a hjk hj hk e1 => by
    have nj : j ≠ i := fun z => by subst z; exact own_no rfl hj
    have nk : k ≠ i := fun z => by subst z; exact own_no rfl hk
    exact s.ap j k a hjk (own_ne hj nj) (own_ne hk nk) e1
  sub := s.sub
  old := s.old
  la := fun j a ha hj => by
    have nj : j ≠ i := fun z => by subst z; exact own_no rfl hj
    exact s.la j a ha (own_ne hj nj)
  fr := s.fr
  li := s.li
  nw := s.nw
  lb := s.lb
/-- an address that no name owns -/
def Apart (Γ : En K) (σ : L2.St) (p : Addr) : Prop := ∀ i, own Γ i → σ[i]? ≠ some (some (.ref p))
theorem Sat.apart {p : Addr} (s : Sat C Γ σ W H) (hp : H p = none) : Apart Γ σ p := fun i ⟨e, h1, h2⟩ z => by
  cases e with
  | no => cases h2
  | im c x => cases h2
  | ow c x =>
    obtain ⟨a, o, e1, _, _, e4, _⟩ := s.sl i _ h1
    rw [z] at e1
    have := Option.some.inj (show some (V.ref p) = some (V.ref a) from e1)
    injection this with this
    subst this
    rw [hp] at e4; cases e4
  | lp => cases h2
  | ln c x => cases h2
/-- a name is given a new object of its own -/
theorem Sat.take {i : Nat} {α : Type} {c : Cel K α} {x : α} {p : Addr} {o : HO} (s : Sat C Γ σ W H) (hi : i < σ.length) (hw : W p = none) (hb : C.H p = none ∨ C.B p) (hp : H p = some o) (h : c.ct W o x) (ha : Apart Γ σ p) (hla : C.a ≠ some p) :
    Sat C (Γ.set i (.ow c x)) (σ.set i (some (.ref p))) W H where
  sl := fun j e q => by
    by_cases hj : j = i
    · subst hj
      by_cases hl : j < Γ.length
      · rw [List.getElem?_set_self hl] at q
        have := Option.some.inj q; subst this
        rw [List.getElem?_set_self hi]
        exact ⟨p, o, rfl, hw, hb, hp, h⟩
      · rw [List.getElem?_eq_none (by rw [List.length_set]; omega)] at q; cases q
    · rw [List.getElem?_set_ne (Ne.symm hj)] at q ⊢
      exact s.sl j e q
  ap := fun j k a hjk hj hk e1 => by
    by_cases nj : j = i
    · subst nj
      rw [List.getElem?_set_self hi] at e1
      have := Option.some.inj (Option.some.inj e1)
      injection this with this
      subst this
      have nk : k ≠ j := Ne.symm hjk
      rw [List.getElem?_set_ne (Ne.symm nk)]
      exact ha k (own_ne hk nk)
    · by_cases nk : k = i
      · subst nk
        rw [List.getElem?_set_ne (Ne.symm nj)] at e1
        rw [List.getElem?_set_self hi]
        intro z
        have := Option.some.inj (Option.some.inj z)
        injection this with this
        subst this
        exact ha j (own_ne hj nj) e1
      · rw [List.getElem?_set_ne (Ne.symm nj)] at e1
        rw [List.getElem?_set_ne (Ne.symm nk)]
        exact s.ap j k a hjk (own_ne hj nj) (own_ne hk nk) e1
  sub := s.sub
  old := s.old
  la := fun j a ha hj => by
    by_cases nj : j = i
    · subst nj
      rw [List.getElem?_set_self hi]
      intro z
      have := Option.some.inj (Option.some.inj z)
      injection this with this
      subst this
      exact hla ha
    · rw [List.getElem?_set_ne (Ne.symm nj)]
      exact s.la j a ha (own_ne hj nj)
  fr := s.fr
  li := s.li
  nw := s.nw
  lb := s.lb
/-- what a name owns is changed (by whomever; the heap may have grown) -/
theorem Sat.turn {i : Nat} {α β : Type} {c : Cel K α} {c' : Cel K β} {x : α} {y : β} {p : Addr} {o' : HO} (s : Sat C Γ σ W H) (hi : Γ[i]? = some (.ow c x)) (e : σ[i]? = some (some (.ref p)))
    (w : Same W W') (sub : Same W' H') (nw : ∀ a, H a ≠ none → W a = none → W' a = none) (hh : ∀ b u, b ≠ p → H b = some u → H' b = some u) (hp : H' p = some o') (h : c'.ct W' o' y) : Sat C (Γ.set i (.ow c' y)) σ W' H' := by
  obtain ⟨a, o, e1, e2, e3, e4, e5⟩ := s.sl i _ hi
  rw [e] at e1
  have ea := Option.some.inj (show some (V.ref p) = some (V.ref a) from e1)
  injection ea with ea
  subst ea
  have oi : own Γ i := ⟨_, hi, rfl⟩
  have hl : i < Γ.length := (List.getElem?_eq_some_iff.mp hi).1
  have wp : W' p = none := nw p (by rw [e4]; simp) e2
  have own' : ∀ j, own (Γ.set i (.ow c' y)) j → own Γ j := fun j hj => by
    by_cases q : j = i
    · rw [q]; exact oi
    · exact own_ne hj q
  have pa : C.a ≠ some p := fun z => s.la i p z oi e
  refine ⟨fun j u q => ?_, fun j k a hjk hj hk => s.ap j k a hjk (own' j hj) (own' k hk), sub, s.old.trans w, fun j a ha hj => s.la j a ha (own' j hj), fun b u q hb ha => ?_, fun b q => ?_, fun b h1 h2 => nw b (s.li b h1) (s.nw b h1 h2), fun b q => ?_⟩
  · by_cases hj : j = i
    · subst hj
      rw [List.getElem?_set_self hl] at q
      have := Option.some.inj q; subst this
      rw [e]
      exact ⟨p, o', rfl, wp, e3, hp, h⟩
    · rw [List.getElem?_set_ne (Ne.symm hj)] at q
      have z := s.sl j u q
      cases u with
      | no => trivial
      | im d t => obtain ⟨v, h1, h2⟩ := z; exact ⟨v, h1, d.mono w h2⟩
      | ow d t =>
        obtain ⟨b, ob, f1, f2, f3, f4, f5⟩ := z
        have nb : b ≠ p := fun z => by
          subst z
          have oj : own Γ j := ⟨_, q, rfl⟩
          refine s.ap i j b (Ne.symm hj) oi oj e ?_
          cases q2 : σ[j]? with
          | none => rw [q2] at f1; cases f1
          | some w2 => rw [q2] at f1; rw [show w2 = some (V.ref b) from f1]
        exact ⟨b, ob, f1, nw b (by rw [f4]; simp) f2, f3, hh b ob nb f4, d.mono w f5⟩
      | lp => exact z
      | ln d t =>
        obtain ⟨b, ob, f1, f2, f4, f5⟩ := z
        have nb : b ≠ p := fun z => by subst z; exact pa f1
        exact ⟨b, ob, f1, nw b (by rw [f4]; simp) f2, hh b ob nb f4, d.mono w f5⟩
  · refine hh b u (fun z => ?_) (s.fr b u q hb ha)
    subst z
    rcases e3 with z | z
    · rw [z] at q; cases q
    · exact hb z
  · by_cases hb : b = p
    · subst hb; rw [hp]; simp
    · intro z
      cases q2 : H b with
      | none => exact s.li b q q2
      | some u => rw [hh b u hb q2] at z; cases z
  · by_cases hb : b = p
    · subst hb; rw [hp]; simp
    · intro z
      cases q2 : H b with
      | none => exact s.lb b q q2
      | some u => rw [hh b u hb q2] at z; cases z
/-- what a name owns is from now on a value that stands still -/
theorem Sat.freeze {i : Nat} {α : Type} {c : Cod K α} {xs : List α} (s : Sat C Γ σ W H) (hi : Γ[i]? = some (.ow (lstC c) xs)) (hb : ∀ a, C.B a → σ[i]? ≠ some (some (.ref a))) :
    ∃ W', Same W W' ∧ Sat C (Γ.set i (.im (cLst c) xs)) σ W' H := by
  obtain ⟨a, o, e1, e2, e3, e4, e5⟩ := s.sl i _ hi
  obtain ⟨vs, rfl, r⟩ := e5
  have oi : own Γ i := ⟨_, hi, rfl⟩
  have ei : σ[i]? = some (some (.ref a)) := by
    cases q2 : σ[i]? with
    | none => rw [q2] at e1; cases e1
    | some w2 => rw [q2] at e1; rw [show w2 = some (V.ref a) from e1]
  have w : Same W (upd W a (.lst vs)) := fun b u q => by rw [upd_ne (ne_of_none q e2)]; exact q
  have hl : i < Γ.length := (List.getElem?_eq_some_iff.mp hi).1
  have na : C.H a = none := e3.elim id fun z => absurd ei (hb a z)
  refine ⟨upd W a (.lst vs), w, fun j u q => ?_, fun j k b hjk hj hk => ?_, fun b u q => ?_, s.old.trans w, fun j b hb hj => s.la j b hb (own_ne hj fun z => by subst z; exact own_no rfl hj), s.fr, s.li, fun b h1 h2 => ?_, s.lb⟩
  · by_cases hj : j = i
    · subst hj
      rw [List.getElem?_set_self hl] at q
      have := Option.some.inj q; subst this
      rw [ei]
      exact ⟨.ref a, rfl, a, vs, rfl, upd_same, r.mono w⟩
    · rw [List.getElem?_set_ne (Ne.symm hj)] at q
      have z := s.sl j u q
      cases u with
      | no => trivial
      | im d t => obtain ⟨v, h1, h2⟩ := z; exact ⟨v, h1, d.mono w h2⟩
      | ow d t =>
        obtain ⟨b, ob, f1, f2, f3, f4, f5⟩ := z
        have nb : b ≠ a := fun z => by
          subst z
          have oj : own Γ j := ⟨_, q, rfl⟩
          refine s.ap i j b (Ne.symm hj) oi oj ei ?_
          cases q2 : σ[j]? with
          | none => rw [q2] at f1; cases f1
          | some w2 => rw [q2] at f1; rw [show w2 = some (V.ref b) from f1]
        exact ⟨b, ob, f1, by rw [upd_ne nb]; exact f2, f3, f4, d.mono w f5⟩
      | lp => exact z
      | ln d t =>
        obtain ⟨b, ob, f1, f2, f4, f5⟩ := z
        have nb : b ≠ a := fun z => by subst z; exact s.la i b f1 oi ei
        exact ⟨b, ob, f1, by rw [upd_ne nb]; exact f2, f4, d.mono w f5⟩
  · have nj : j ≠ i := fun z => by subst z; exact own_no rfl hj
    have nk : k ≠ i := fun z => by subst z; exact own_no rfl hk
    exact s.ap j k b hjk (own_ne hj nj) (own_ne hk nk)
  · by_cases q2 : b = a
    · subst q2; rw [upd_same] at q; cases q; exact e4
    · rw [upd_ne q2] at q; exact s.sub b u q
  · have nb : b ≠ a := fun z => by subst z; exact h1 na
    rw [upd_ne nb]; exact s.nw b h1 h2
/-- an object of nobody's changes -/
theorem Sat.side {p : Addr} {o : HO} (s : Sat C Γ σ W H) (cp : C.H p = none) (wp : W p = none) (ap : Apart Γ σ p) (ca : C.a ≠ some p) : Sat C Γ σ W (upd H p o) := by
  have nn : ∀ b, H b ≠ none → upd H p o b ≠ none := fun b h => by
    by_cases hb : b = p
    · subst hb; rw [upd_same]; simp
    · rw [upd_ne hb]; exact h
  refine ⟨fun i e h => ?_, s.ap, fun b u e => by rw [upd_ne (ne_of_none e wp)]; exact s.sub b u e, s.old, s.la, fun b u e hb ha => by rw [upd_ne (ne_of_none e cp)]; exact s.fr b u e hb ha, fun b h => nn b (s.li b h), s.nw, fun b h => nn b (s.lb b h)⟩
  have t := s.sl i e h
  cases e with
  | no => trivial
  | im c x => exact t
  | ow c x =>
    obtain ⟨a, u, e1, e2, e3, e4, e5⟩ := t
    have na : a ≠ p := fun z => by
      subst z
      refine ap i ⟨_, h, rfl⟩ ?_
      cases q : σ[i]? with
      | none => rw [q] at e1; cases e1
      | some w => rw [q] at e1; rw [show w = some (V.ref a) from e1]
    exact ⟨a, u, e1, e2, e3, by rw [upd_ne na]; exact e4, e5⟩
  | lp => exact t
  | ln c x =>
    obtain ⟨a, u, e1, e2, e4, e5⟩ := t
    have na : a ≠ p := fun z => by subst z; exact ca e1
    exact ⟨a, u, e1, e2, by rw [upd_ne na]; exact e4, e5⟩
def lnU (m : Nat) : Nat → En K → Bool
  | _, [] => true
  | i, .ln _ _ :: Γ => (i == m) && lnU m (i + 1) Γ
  | i, .no :: Γ => lnU m (i + 1) Γ
  | i, .im _ _ :: Γ => lnU m (i + 1) Γ
  | i, .ow _ _ :: Γ => lnU m (i + 1) Γ
  | i, .lp :: Γ => lnU m (i + 1) Γ
theorem lnU_at {m : Nat} {α : Type} {c : Cel K α} {x : α} : ∀ {Γ : En K} {i : Nat}, lnU m i Γ = true → ∀ j, Γ[j]? = some (.ln c x) → i + j = m
  | [], i, h, j, q => by simp at q
  | e :: Γ, i, h, 0, q => by
    simp at q; subst q
    have h : ((i == m) && lnU m (i + 1) Γ) = true := h
    rw [Bool.and_eq_true] at h
    exact eq_of_beq h.1
  | e :: Γ, i, h, j + 1, q => by
    have q : Γ[j]? = some (.ln c x) := by simpa using q
    have h' : lnU m (i + 1) Γ = true := by
      cases e with
      | ln d t =>
        have h : ((i == m) && lnU m (i + 1) Γ) = true := h
        rw [Bool.and_eq_true] at h
        exact h.2
      | _ => exact h
    have := lnU_at h' j q
    omega
/-- what is lent is changed -/
theorem Sat.turnL {m : Nat} {α β : Type} {c : Cel K α} {c' : Cel K β} {x : α} {y : β} {p : Addr} {o' : HO} (s : Sat C Γ σ W H) (hm : Γ[m]? = some (.ln c x)) (ca : C.a = some p)
    (w : Same W W') (sub : Same W' H') (nw : ∀ a, H a ≠ none → W a = none → W' a = none) (hh : ∀ b u, b ≠ p → H b = some u → H' b = some u) (hp : H' p = some o') (h : c'.ct W' o' y)
    (hu : lnU m 0 Γ = true) : Sat C (Γ.set m (.ln c' y)) σ W' H' := by
  obtain ⟨a, o, e1, e2, e4, e5⟩ := s.sl m _ hm
  rw [ca] at e1
  have ea := Option.some.inj e1
  subst ea
  have hl : m < Γ.length := (List.getElem?_eq_some_iff.mp hm).1
  have wp : W' p = none := nw p (by rw [e4]; simp) e2
  have own' : ∀ j, own (Γ.set m (.ln c' y)) j → own Γ j := fun j hj => own_ne hj fun z => by subst z; exact own_no rfl hj
  have nn : ∀ b, H b ≠ none → H' b ≠ none := fun b q => by
    by_cases hb : b = p
    · subst hb; rw [hp]; simp
    · intro z
      cases q2 : H b with
      | none => exact q q2
      | some u => rw [hh b u hb q2] at z; cases z
  refine ⟨fun j u q => ?_, fun j k a hjk hj hk => s.ap j k a hjk (own' j hj) (own' k hk), sub, s.old.trans w, fun j a ha hj => s.la j a ha (own' j hj), fun b u q hb ha => ?_, fun b q => nn b (s.li b q), fun b h1 h2 => nw b (s.li b h1) (s.nw b h1 h2), fun b q => nn b (s.lb b q)⟩
  · by_cases hj : j = m
    · subst hj
      rw [List.getElem?_set_self hl] at q
      have := Option.some.inj q; subst this
      exact ⟨p, o', ca, wp, hp, h⟩
    · rw [List.getElem?_set_ne (Ne.symm hj)] at q
      have z := s.sl j u q
      cases u with
      | no => trivial
      | im d t => obtain ⟨v, h1, h2⟩ := z; exact ⟨v, h1, d.mono w h2⟩
      | ow d t =>
        obtain ⟨b, ob, f1, f2, f3, f4, f5⟩ := z
        have nb : b ≠ p := fun z => by
          subst z
          refine s.la j b ca ⟨_, q, rfl⟩ ?_
          cases q2 : σ[j]? with
          | none => rw [q2] at f1; cases f1
          | some w2 => rw [q2] at f1; rw [show w2 = some (V.ref b) from f1]
        exact ⟨b, ob, f1, nw b (by rw [f4]; simp) f2, f3, hh b ob nb f4, d.mono w f5⟩
      | lp => exact z
      | ln d t => exact absurd (by have := lnU_at hu j q; omega) hj
  · have nb : b ≠ p := fun z => by subst z; exact ha ca
    exact hh b u nb (s.fr b u q hb ha)
/-- within a part: all that stands now stays, but what the names own -/
def inner (C : Ct) (Γ : En K) (σ : L2.St) (W H : Hp) : Ct := ⟨W, H, fun a => C.B a ∨ ∃ i, own Γ i ∧ σ[i]? = some (some (.ref a)), C.a⟩
theorem Sat.into (s : Sat C Γ σ W H) : Sat (inner C Γ σ W H) Γ σ W H := by
  refine ⟨fun i e h => ?_, s.ap, s.sub, Same.refl _, s.la, fun _ _ h _ _ => h, fun _ h => h, fun _ _ h => h, fun a h => ?_⟩
  · have t := s.sl i e h
    cases e with
    | no => trivial
    | im c x => exact t
    | ow c x =>
      obtain ⟨a, u, e1, e2, e3, e4, e5⟩ := t
      refine ⟨a, u, e1, e2, .inr (.inr ⟨i, ⟨_, h, rfl⟩, ?_⟩), e4, e5⟩
      cases q : σ[i]? with
      | none => rw [q] at e1; cases e1
      | some w => rw [q] at e1; rw [show w = some (V.ref a) from e1]
    | lp => exact t
    | ln c x => exact t
  · rcases h with (h | ⟨i, ⟨e, h1, h2⟩, h3⟩) | h
    · exact s.lb a (.inl h)
    · cases e with
      | no => cases h2
      | im c x => cases h2
      | ow c x =>
        obtain ⟨b, u, e1, e2, e3, e4, e5⟩ := s.sl i _ h1
        rw [h3] at e1
        have := Option.some.inj (show some (V.ref a) = some (V.ref b) from e1)
        injection this with this
        subst this
        rw [e4]; simp
      | lp => cases h2
      | ln c x => cases h2
    · exact s.lb a (.inr h)
theorem Sat.outof {Γ' : En K} {σ' : L2.St} (s : Sat C Γ σ W H) (t : Sat (inner C Γ σ W H) Γ' σ' W' H') : Sat C Γ' σ' W' H' := by
  have own1 : ∀ a, (∃ i, own Γ i ∧ σ[i]? = some (some (.ref a))) → C.H a = none ∨ C.B a := fun a ⟨i, ⟨e, h1, h2⟩, h3⟩ => by
    cases e with
    | no => cases h2
    | im c x => cases h2
    | ow c x =>
      obtain ⟨b, u, e1, e2, e3, e4, e5⟩ := s.sl i _ h1
      rw [h3] at e1
      have := Option.some.inj (show some (V.ref a) = some (V.ref b) from e1)
      injection this with this
      subst this
      exact e3
    | lp => cases h2
    | ln c x => cases h2
  refine ⟨fun i e h => ?_, t.ap, t.sub, s.old.trans t.old, t.la, fun a o h hb ha => ?_, fun a h => t.li a (s.li a h), fun a h1 h2 => t.nw a (s.li a h1) (s.nw a h1 h2), fun a h => t.lb a (h.imp .inl id)⟩
  · have q := t.sl i e h
    cases e with
    | no => trivial
    | im c x => exact q
    | ow c x =>
      obtain ⟨a, u, e1, e2, e3, e4, e5⟩ := q
      refine ⟨a, u, e1, e2, ?_, e4, e5⟩
      rcases e3 with e3 | e3 | e3
      · left
        cases q2 : C.H a with
        | none => rfl
        | some o => exact absurd e3 (s.li a (by rw [q2]; simp))
      · exact .inr e3
      · exact own1 a e3
    | lp => exact q
    | ln c x => exact q
  · refine t.fr a o (s.fr a o h hb ha) (fun z => ?_) ha
    rcases z with z | z
    · exact hb z
    · rcases own1 a z with z | z
      · rw [z] at h; cases h
      · exact hb z
/-- names set aside -/
theorem drops_get : ∀ (vs : List Nat) (Γ : En K) (i : Nat) (e : Ent K), (drops0 vs Γ)[i]? = some e → e = .no ∨ (i ∉ vs ∧ Γ[i]? = some e)
  | [], Γ, i, e, h => .inr ⟨by simp, h⟩
  | v :: vs, Γ, i, e, h => by
    rcases drops_get vs _ i e h with q | ⟨q1, q2⟩
    · exact .inl q
    · by_cases hi : i = v
      · subst hi
        by_cases hl : i < Γ.length
        · rw [List.getElem?_set_self hl] at q2
          exact .inl (Option.some.inj q2).symm
        · rw [List.getElem?_eq_none (by rw [List.length_set]; omega)] at q2; cases q2
      · rw [List.getElem?_set_ne (Ne.symm hi)] at q2
        exact .inr ⟨by simp only [List.mem_cons, not_or]; exact ⟨hi, q1⟩, q2⟩
theorem own_drops {vs : List Nat} {i : Nat} (h : own (drops0 vs Γ) i) : i ∉ vs ∧ own Γ i := by
  obtain ⟨e, h1, h2⟩ := h
  rcases drops_get vs Γ i e h1 with q | ⟨q1, q2⟩
  · rw [q] at h2; cases h2
  · exact ⟨q1, e, q2, h2⟩
theorem wipe_get {σ : L2.St} {i : Nat} : ∀ {vs : List Nat}, i ∉ vs → (wipe σ vs)[i]? = σ[i]?
  | [], _ => rfl
  | v :: vs, h => by
    simp only [List.mem_cons, not_or] at h
    show ((wipe σ vs).set v none)[i]? = _
    rw [List.getElem?_set_ne (Ne.symm h.1)]
    exact wipe_get h.2
theorem Sat.wipe (vs : List Nat) (s : Sat C Γ σ W H) : Sat C (drops0 vs Γ) (L2.wipe σ vs) W H where
  sl := fun i e h => by
    rcases drops_get vs Γ i e h with q | ⟨q1, q2⟩
    · subst q; trivial
    · rw [wipe_get q1]; exact s.sl i e q2
  ap := fun i j a hij hi hj => by
    obtain ⟨i1, i2⟩ := own_drops hi
    obtain ⟨j1, j2⟩ := own_drops hj
    rw [wipe_get i1, wipe_get j1]
    exact s.ap i j a hij i2 j2
  sub := s.sub
  old := s.old
  la := fun i a ha hi => by
    obtain ⟨i1, i2⟩ := own_drops hi
    rw [wipe_get i1]
    exact s.la i a ha i2
  fr := s.fr
  li := s.li
  nw := s.nw
  lb := s.lb
/-- back: σ and its wiped like know the same of the other names -/
theorem Sat.unwipe {vs : List Nat} (s : Sat C (drops0 vs Γ) (L2.wipe σ vs) W H) : Sat C (drops0 vs Γ) σ W H where
  sl := fun i e h => by
    have t := s.sl i e h
    rcases drops_get vs Γ i e h with q | ⟨q1, q2⟩
    · subst q; trivial
    · rw [wipe_get q1] at t; exact t
  ap := fun i j a hij hi hj => by
    have t := s.ap i j a hij hi hj
    rw [wipe_get (own_drops hi).1, wipe_get (own_drops hj).1] at t
    exact t
  sub := s.sub
  old := s.old
  la := fun i a ha hi => by
    have t := s.la i a ha hi
    rw [wipe_get (own_drops hi).1] at t
    exact t
  fr := s.fr
  li := s.li
  nw := s.nw
  lb := s.lb
end
end Ty

set_option maxHeartbeats 4000000
namespace Ty
open PySem PySem.Spec PyProof.Rows L2

/-! ### what must hold so that a piece runs to a wish -/
section
variable (X : Cx)
def wpe (e : Expr) : TE := fun σ H Q => ∀ pins s, Inv X pins σ H s → wpAny (model X.prog X.w) X.A (eval e X.env) (EP X pins σ Q) X.xe s
def wpt (e : Expr) : TT := fun σ H Q => ∀ pins s, Inv X pins σ H s → wpAny (model X.prog X.w) X.A (isTrue e X.env (eval e X.env)) (TP X pins σ Q) X.xe s
def wpw (e : Expr) : TT := fun σ H Q => ∀ wh pins s, Inv X pins σ H s → wpAny (model X.prog X.w) X.A (isTrue e X.env wh) (TP X pins σ Q) X.xe s
def wpa (es : List Expr) : TA := fun σ H Q => ∀ pos pins s, Inv X pins σ H s → wpAny (model X.prog X.w) X.A (spliced (backTo pos (starEach es X.env))) (AP X pins σ Q) X.xe s
def wpS (st : Stmt) : TS := fun D σ H => ∀ pins s, Inv X pins σ H s → wpAny (model X.prog X.w) X.A (exec st X.env) (SP X pins D) X.xe s
def wpB (st : List Stmt) : TS := fun D σ H => ∀ pins s, Inv X pins σ H s → wpAny (model X.prog X.w) X.A (execs st X.env) (SP X pins D) X.xe s
def wpg (tg : Expr) : TG := fun v σ H Q => ∀ pins s u, Inv X pins σ H s → RelV v u → wpAny (model X.prog X.w) X.A (assign tg X.env u) (fun _ s' => ∃ σ' H', Inv X pins σ' H' s' ∧ Q σ' H') X.xe s
def wpi (tg iter : Expr) : TI := fun σ H R => ∀ pins s, Inv X pins σ H s → wpAny (model X.prog X.w) X.A (eval iter X.env) (fun v s1 => wpAny (model X.prog X.w) X.A (pyIter v) (PIE X pins σ tg R) X.xe s1) X.xe s
end
section
variable {X : Cx} {e tg : Expr} {es : List Expr} {st : Stmt} {sts : List Stmt} {σ : L2.St} {H : Hp}
theorem pe_w : PE X e (wpe X e) := ⟨fun pins s _ _ _ I h => h pins s I⟩
theorem pt_w : PT X e (wpt X e) := ⟨fun pins s _ _ _ I h => h pins s I⟩
theorem pw_w : PW X e (wpw X e) := ⟨fun wh pins s _ _ _ I h => h wh pins s I⟩
theorem pa_w : PA X es (wpa X es) := ⟨fun pos pins s _ _ _ I h => h pos pins s I⟩
theorem ps_w : PS X st (wpS X st) := ⟨fun pins s _ _ _ I h => h pins s I⟩
theorem pss_w : PSs X sts (wpB X sts) := ⟨fun pins s _ _ _ I h => h pins s I⟩
theorem pg_w : PG X tg (wpg X tg) := ⟨fun pins s _ _ _ u _ I r h => h pins s u I r⟩
theorem pi_w : PI X tg e (wpi X tg e) := ⟨fun pins s _ _ _ I h => h pins s I⟩
theorem w_pe {t : TE} {Q : VK} (h : PE X e t) (q : t σ H Q) : wpe X e σ H Q := fun pins s I => h.run pins s σ H Q I q
theorem w_pt {t : TT} {Q : Bool → Hp → Prop} (h : PT X e t) (q : t σ H Q) : wpt X e σ H Q := fun pins s I => h.run pins s σ H Q I q
theorem w_pw {t : TT} {Q : Bool → Hp → Prop} (h : PW X e t) (q : t σ H Q) : wpw X e σ H Q := fun wh pins s I => h.run wh pins s σ H Q I q
theorem w_pa {t : TA} {Q : List V → Hp → Prop} (h : PA X es t) (q : t σ H Q) : wpa X es σ H Q := fun pos pins s I => h.run pos pins s σ H Q I q
theorem w_ps {t : TS} {D : Ends} (h : PS X st t) (q : t D σ H) : wpS X st D σ H := fun pins s I => h.run pins s σ H D I q
theorem w_pss {t : TS} {D : Ends} (h : PSs X sts t) (q : t D σ H) : wpB X sts D σ H := fun pins s I => h.run pins s σ H D I q
theorem w_pg {t : TG} {v : V} {Q : L2.St → Hp → Prop} (h : PG X tg t) (q : t v σ H Q) : wpg X tg v σ H Q := fun pins s u I r => h.run pins s σ H v u Q I r q
theorem w_pi {t : TI} {R : It → Hp → Prop} (h : PI X tg e t) (q : t σ H R) : wpi X tg e σ H R := fun pins s I => h.run pins s σ H R I q
end

/-! ### the judgements -/
section
variable (X : Cx) (C : Ct) {ρ α : Type}
/-- from Γ with the rest r to go, e gives an x and goes on to what J says -/
structure EX (Γ : En X.K) (e : Expr) (c : Cod X.K α) (r : Option ρ) (J : α → En X.K → Option ρ → Prop) : Prop where
  run : ∀ (z : ρ) σ W H (Q : VK), Sat C Γ σ W H → r = some z →
    (∀ x Γ' r' W' H' v, J x Γ' r' → r' = some z → Sat C Γ' σ W' H' → Same W W' → c.rp W' v x → Q v H') → wpe X e σ H Q
/-- a new object, not yet owned -/
structure EF (Γ : En X.K) (e : Expr) (c : Cel X.K α) (r : Option ρ) (J : α → En X.K → Option ρ → Prop) : Prop where
  run : ∀ (z : ρ) σ W H (Q : VK), Sat C Γ σ W H → r = some z →
    (∀ x Γ' r' W' H' p o, J x Γ' r' → r' = some z → Sat C Γ' σ W' H' → Same W W' → W' p = none → C.H p = none → H' p = some o → c.ct W' o x → Apart Γ' σ p → C.a ≠ some p → Q (.ref p) H') → wpe X e σ H Q
structure ET (Γ : En X.K) (e : Expr) (r : Option ρ) (J : Bool → En X.K → Option ρ → Prop) : Prop where
  run : ∀ (z : ρ) σ W H (Q : Bool → Hp → Prop), Sat C Γ σ W H → r = some z →
    (∀ x Γ' r' W' H', J x Γ' r' → r' = some z → Sat C Γ' σ W' H' → Same W W' → Q x H') → wpt X e σ H Q
structure EW (Γ : En X.K) (e : Expr) (r : Option ρ) (J : Bool → En X.K → Option ρ → Prop) : Prop where
  run : ∀ (z : ρ) σ W H (Q : Bool → Hp → Prop), Sat C Γ σ W H → r = some z →
    (∀ x Γ' r' W' H', J x Γ' r' → r' = some z → Sat C Γ' σ W' H' → Same W W' → Q x H') → wpw X e σ H Q
structure EA (Γ : En X.K) (es : List Expr) (t : TC X.K α) (r : Option ρ) (J : α → En X.K → Option ρ → Prop) : Prop where
  run : ∀ (z : ρ) σ W H (Q : List V → Hp → Prop), Sat C Γ σ W H → r = some z →
    (∀ x Γ' r' W' H' vs, J x Γ' r' → r' = some z → Sat C Γ' σ W' H' → Same W W' → t.rp W' vs x → Q vs H') → wpa X es σ H Q
structure EL (Γ : En X.K) (es : List Expr) (c : Cod X.K α) (r : Option ρ) (J : List α → En X.K → Option ρ → Prop) : Prop where
  run : ∀ (z : ρ) σ W H (Q : List V → Hp → Prop), Sat C Γ σ W H → r = some z →
    (∀ x Γ' r' W' H' vs, J x Γ' r' → r' = some z → Sat C Γ' σ W' H' → Same W W' → Row c W' vs x → x.length = es.length → Q vs H') → wpa X es σ H Q
end
instance {X : Cx} {C : Ct} {ρ : Type} {Γ : En X.K} {r : Option ρ} {α : Type} {c : Cod X.K α} {e : Expr} {J : α → En X.K → Option ρ → Prop} : CoeFun (EX X C Γ e c r J) (fun _ => ∀ (z : ρ) σ W H (Q : VK), Sat C Γ σ W H → r = some z →
    (∀ x Γ' r' W' H' v, J x Γ' r' → r' = some z → Sat C Γ' σ W' H' → Same W W' → c.rp W' v x → Q v H') → wpe X e σ H Q) := ⟨EX.run⟩
instance {X : Cx} {C : Ct} {ρ : Type} {Γ : En X.K} {r : Option ρ} {α : Type} {c : Cel X.K α} {e : Expr} {J : α → En X.K → Option ρ → Prop} : CoeFun (EF X C Γ e c r J) (fun _ => ∀ (z : ρ) σ W H (Q : VK), Sat C Γ σ W H → r = some z →
    (∀ x Γ' r' W' H' p o, J x Γ' r' → r' = some z → Sat C Γ' σ W' H' → Same W W' → W' p = none → C.H p = none → H' p = some o → c.ct W' o x → Apart Γ' σ p → C.a ≠ some p → Q (.ref p) H') → wpe X e σ H Q) := ⟨EF.run⟩
instance {X : Cx} {C : Ct} {ρ : Type} {Γ : En X.K} {r : Option ρ} {e : Expr} {J : Bool → En X.K → Option ρ → Prop} : CoeFun (ET X C Γ e r J) (fun _ => ∀ (z : ρ) σ W H (Q : Bool → Hp → Prop), Sat C Γ σ W H → r = some z →
    (∀ x Γ' r' W' H', J x Γ' r' → r' = some z → Sat C Γ' σ W' H' → Same W W' → Q x H') → wpt X e σ H Q) := ⟨ET.run⟩
instance {X : Cx} {C : Ct} {ρ : Type} {Γ : En X.K} {r : Option ρ} {e : Expr} {J : Bool → En X.K → Option ρ → Prop} : CoeFun (EW X C Γ e r J) (fun _ => ∀ (z : ρ) σ W H (Q : Bool → Hp → Prop), Sat C Γ σ W H → r = some z →
    (∀ x Γ' r' W' H', J x Γ' r' → r' = some z → Sat C Γ' σ W' H' → Same W W' → Q x H') → wpw X e σ H Q) := ⟨EW.run⟩
instance {X : Cx} {C : Ct} {ρ : Type} {Γ : En X.K} {r : Option ρ} {α : Type} {t : TC X.K α} {es : List Expr} {J : α → En X.K → Option ρ → Prop} : CoeFun (EA X C Γ es t r J) (fun _ => ∀ (z : ρ) σ W H (Q : List V → Hp → Prop), Sat C Γ σ W H → r = some z →
    (∀ x Γ' r' W' H' vs, J x Γ' r' → r' = some z → Sat C Γ' σ W' H' → Same W W' → t.rp W' vs x → Q vs H') → wpa X es σ H Q) := ⟨EA.run⟩
instance {X : Cx} {C : Ct} {ρ : Type} {Γ : En X.K} {r : Option ρ} {α : Type} {c : Cod X.K α} {es : List Expr} {J : List α → En X.K → Option ρ → Prop} : CoeFun (EL X C Γ es c r J) (fun _ => ∀ (z : ρ) σ W H (Q : List V → Hp → Prop), Sat C Γ σ W H → r = some z →
    (∀ x Γ' r' W' H' vs, J x Γ' r' → r' = some z → Sat C Γ' σ W' H' → Same W W' → Row c W' vs x → x.length = es.length → Q vs H') → wpa X es σ H Q) := ⟨EL.run⟩
/-- one knowledge gives another -/
def Wk {K : Frag} (C : Ct) (Γ Γ' : En K) : Prop := ∀ σ W H, Sat C Γ σ W H → ∃ W', Same W W' ∧ Sat C Γ' σ W' H
theorem wk_refl {K : Frag} {C : Ct} {Γ : En K} : Wk C Γ Γ := fun _ W _ s => ⟨W, Same.refl _, s⟩
theorem wk_of {K : Frag} {C : Ct} {Γ Γ' : En K} (h : Γ = Γ' := by rfl) : Wk C Γ Γ' := by subst h; exact wk_refl
theorem Wk.trans {K : Frag} {C : Ct} {Γ Γ' Γ2 : En K} (a : Wk C Γ Γ') (b : Wk C Γ' Γ2) : Wk C Γ Γ2 := fun σ W H s => by
  obtain ⟨W1, e1, s1⟩ := a σ W H s
  obtain ⟨W2, e2, s2⟩ := b σ W1 H s1
  exact ⟨W2, e1.trans e2, s2⟩
theorem wk_drop {K : Frag} {C : Ct} {Γ : En K} (i : Nat) : Wk C Γ (Γ.set i .no) := fun _ W _ s => ⟨W, Same.refl _, s.drop i⟩
abbrev drops {K : Frag} : List Nat → En K → En K := drops0
theorem wk_drops' {K : Frag} {C : Ct} : ∀ (is : List Nat) {Γ : En K}, Wk C Γ (drops is Γ)
  | [], _ => wk_refl
  | i :: is, _ => (wk_drop i).trans (wk_drops' is)
theorem wk_drops {K : Frag} {C : Ct} {Γ Γ' : En K} (is : List Nat) (h : drops is Γ = Γ' := by rfl) : Wk C Γ Γ' := by subst h; exact wk_drops' is

section
variable {X : Cx} {C : Ct} {ρ α β γ : Type} {Γ : En X.K} {e a b : Expr} {es : List Expr} {r : Option ρ} {pos : Pos}
theorem getD_some {σ : L2.St} {i : Nat} {v : V} (h : σ[i]?.getD none = some v) : σ[i]? = some (some v) := by
  cases q : σ[i]? with
  | none => rw [q] at h; cases h
  | some w => rw [q] at h; rw [show w = some v from h]
theorem ex_var {c : Cod X.K α} {x : α} {J : α → En X.K → Option ρ → Prop} {n : Str} (i : Nat) (hJ : J x Γ r) (hΓ : Γ[i]? = some (.im c x) := by rfl) (hN : X.N[i]? = some n := by rfl)
    (hv : Vis X.env.scope n := by first | exact Or.inl rfl | exact Or.inr (Or.inl rfl) | exact Or.inr (Or.inr rfl)) (hd : (n == ("__debug__" : Str)) = false := by decide) (hcd : (n == ("__classdict__" : Str)) = false := by decide) : EX X C Γ (.Name n pos) c r J :=
  .mk fun z σ W H Q s hr k => by
    obtain ⟨v, e1, e2⟩ := s.sl i _ hΓ
    exact w_pe (pe_var hN hv hd hcd) ⟨v, getD_some e1, k x Γ r W H v hJ hr s (Same.refl _) e2⟩
theorem ex_int {J : Int → En X.K → Option ρ → Prop} {i : Int} {j} (hJ : J i Γ r) : EX X C Γ (.Constant (.int i) j pos) cInt r J := .mk fun z σ W H Q s hr k => w_pe pe_int (k i Γ r W H _ hJ hr s (Same.refl _) rfl)
theorem ex_bl {J : Bool → En X.K → Option ρ → Prop} {i : Bool} {j} (hJ : J i Γ r) : EX X C Γ (.Constant (.bool i) j pos) cBool r J := .mk fun z σ W H Q s hr k => w_pe pe_bl (k i Γ r W H _ hJ hr s (Same.refl _) rfl)
theorem ex_str {J : Str → En X.K → Option ρ → Prop} {i : Str} {j} (hJ : J i Γ r) : EX X C Γ (.Constant (.str i) j pos) cStr r J := .mk fun z σ W H Q s hr k => w_pe pe_str (k i Γ r W H _ hJ hr s (Same.refl _) rfl)
theorem ex_none {J : Unit → En X.K → Option ρ → Prop} {j} (hJ : J () Γ r) : EX X C Γ (.Constant .none j pos) cNon r J := .mk fun z σ W H Q s hr k => w_pe pe_non (k () Γ r W H _ hJ hr s (Same.refl _) rfl)
/-- the same value read by another codec -/
theorem ex_as {c : Cod X.K α} {c' : Cod X.K β} {J : β → En X.K → Option ρ → Prop} (g : α → β) (hg : ∀ {H : Hp} {v : V} {x : α}, c.rp H v x → c'.rp H v (g x)) (h : EX X C Γ e c r fun x Γ' r' => J (g x) Γ' r') : EX X C Γ e c' r J :=
  .mk fun z σ W H Q s hr k => h z σ W H Q s hr fun x Γ' r' W' H' v j hr' s' w q => k (g x) Γ' r' W' H' v j hr' s' w (hg q)
theorem ex_u {c : Cod X.K α} {J : U → En X.K → Option ρ → Prop} (h : EX X C Γ e c r fun x Γ' r' => J (c.u x) Γ' r') : EX X C Γ e cU r J := ex_as c.u (fun q => c.ru q) h
theorem ex_wk {c : Cod X.K α} {J : α → En X.K → Option ρ → Prop} {Γ' : En X.K} (w : Wk C Γ Γ') (h : EX X C Γ' e c r J) : EX X C Γ e c r J := .mk fun z σ W H Q s hr k => by
  obtain ⟨W1, w1, s1⟩ := w σ W H s
  exact h z σ W1 H Q s1 hr fun x Γ2 r2 W2 H2 v j hr2 s2 w2 q => k x Γ2 r2 W2 H2 v j hr2 s2 (w1.trans w2) q

/-! operators -/
/-- a two-place operation on typed values -/
def Op2 (X : Cx) (f : Value → Value → Sem Value) (c1 : Cod X.K α) (c2 : Cod X.K β) (c3 : Cod X.K γ) (g : α → β → Option γ) : Prop :=
  ∃ r : R2, OpR X f r ∧ ∀ W H x y v u z (Q : VK), Same W H → c1.rp W v x → c2.rp W u y → g x y = some z → (∀ w W' H', Grow W H W' H' → c3.rp W' w z → Q w H') → r v u H Q
theorem ex_op2 {op : Operator} {c1 : Cod X.K α} {c2 : Cod X.K β} {c3 : Cod X.K γ} {g : α → β → Option γ} {J : γ → En X.K → Option ρ → Prop} (o : Op2 X (binaryOp op) c1 c2 c3 g)
    (h : EX X C Γ a c1 r fun x Γ1 r1 => EX X C Γ1 b c2 r1 fun y Γ2 r2 => ∃ k, r2 = g x y >>= k ∧ ∀ z, J z Γ2 (k z)) : EX X C Γ (.BinOp a op b pos) c3 r J := .mk fun z σ W H Q s hr k => by
  obtain ⟨ro, ho, hf⟩ := o
  refine w_pe (pe_op ho pe_w pe_w) (h z σ W H _ s hr fun x Γ1 r1 W1 H1 v j1 hr1 s1 w1 q1 => j1 z σ W1 H1 _ s1 hr1 fun y Γ2 r2 W2 H2 u j2 hr2 s2 w2 q2 => ?_)
  obtain ⟨k2, e2, j2⟩ := j2
  rw [e2] at hr2
  cases hg : g x y with
  | none => rw [hg] at hr2; cases hr2
  | some t =>
    rw [hg] at hr2
    exact hf W2 H2 x y v u t _ s2.sub (c1.mono w2 q1) q2 hg fun w W3 H3 G q3 => k t Γ2 (k2 t) W3 H3 w (j2 t) hr2 (s2.grow G) ((w1.trans w2).trans G.w) q3
/-- .. that always goes -/
theorem ex_op2T {op : Operator} {c1 : Cod X.K α} {c2 : Cod X.K β} {c3 : Cod X.K γ} {g : α → β → γ} {J : γ → En X.K → Option ρ → Prop} (o : Op2 X (binaryOp op) c1 c2 c3 fun x y => some (g x y))
    (h : EX X C Γ a c1 r fun x Γ1 r1 => EX X C Γ1 b c2 r1 fun y Γ2 r2 => J (g x y) Γ2 r2) : EX X C Γ (.BinOp a op b pos) c3 r J := .mk fun z σ W H Q s hr k => by
  obtain ⟨ro, ho, hf⟩ := o
  refine w_pe (pe_op ho pe_w pe_w) (h z σ W H _ s hr fun x Γ1 r1 W1 H1 v j1 hr1 s1 w1 q1 => j1 z σ W1 H1 _ s1 hr1 fun y Γ2 r2 W2 H2 u j2 hr2 s2 w2 q2 => ?_)
  exact hf W2 H2 x y v u _ _ s2.sub (c1.mono w2 q1) q2 rfl fun w W3 H3 G q3 => k _ Γ2 r2 W3 H3 w j2 hr2 (s2.grow G) ((w1.trans w2).trans G.w) q3
theorem ex_cmp {op : CmpOp} {c1 : Cod X.K α} {c2 : Cod X.K β} {g : α → β → Bool} {J : Bool → En X.K → Option ρ → Prop} (o : Op2 X (compareOp op) c1 c2 cBool fun x y => some (g x y))
    (h : EX X C Γ a c1 r fun x Γ1 r1 => EX X C Γ1 b c2 r1 fun y Γ2 r2 => J (g x y) Γ2 r2) (hm : behindInMarks op b = false := by first | exact nomark _ | rfl) : EX X C Γ (.Compare a [op] [b] pos) cBool r J := .mk fun z σ W H Q s hr k => by
  obtain ⟨ro, ho, hf⟩ := o
  refine w_pe (pe_cmpR ho pe_w pe_w hm) (h z σ W H _ s hr fun x Γ1 r1 W1 H1 v j1 hr1 s1 w1 q1 => j1 z σ W1 H1 _ s1 hr1 fun y Γ2 r2 W2 H2 u j2 hr2 s2 w2 q2 => ?_)
  exact hf W2 H2 x y v u _ _ s2.sub (c1.mono w2 q1) q2 rfl fun w W3 H3 G q3 => k _ Γ2 r2 W3 H3 w j2 hr2 (s2.grow G) ((w1.trans w2).trans G.w) q3
theorem et_cmp {op : CmpOp} {c1 : Cod X.K α} {c2 : Cod X.K β} {g : α → β → Bool} {J : Bool → En X.K → Option ρ → Prop} (o : Op2 X (compareOp op) c1 c2 cBool fun x y => some (g x y))
    (h : EX X C Γ a c1 r fun x Γ1 r1 => EX X C Γ1 b c2 r1 fun y Γ2 r2 => J (g x y) Γ2 r2) (hm : behindInMarks op b = false := by first | exact nomark _ | rfl) : ET X C Γ (.Compare a [op] [b] pos) r J := .mk fun z σ W H Q s hr k => by
  obtain ⟨ro, ho, hf⟩ := o
  refine w_pt (pt_cmpR ho pe_w pe_w hm) (h z σ W H _ s hr fun x Γ1 r1 W1 H1 v j1 hr1 s1 w1 q1 => j1 z σ W1 H1 _ s1 hr1 fun y Γ2 r2 W2 H2 u j2 hr2 s2 w2 q2 => ?_)
  exact hf W2 H2 x y v u _ _ s2.sub (c1.mono w2 q1) q2 rfl fun w W3 H3 G q3 => ⟨_, q3, k _ Γ2 r2 W3 H3 j2 hr2 (s2.grow G) ((w1.trans w2).trans G.w)⟩
def mulR (x y : Int) : Option Int := if x.natAbs.log2 + y.natAbs.log2 < 1000000 then some (x * y) else none
def fdivR (x y : Int) : Option Int := if y ≠ 0 ∧ y.natAbs.log2 < 9000 then some (x.fdiv y) else none
def fmodR (x y : Int) : Option Int := if y ≠ 0 then some (x.fmod y) else none
def powR (x y : Int) : Option Int := if 0 ≤ y ∧ y ≤ 1000000 ∧ x.natAbs < 2 ^ 64 then some (x ^ y.toNat) else none
theorem op2I {f : Value → Value → Sem Value} {g : Int → Int → Int} (h : OpR X f (rI0 fun i j => .int (g i j))) : Op2 X f cInt cInt cInt fun x y => some (g x y) :=
  ⟨_, h, fun W H x y v u z Q sb h1 h2 e k => by cases h1; cases h2; cases e; exact ⟨x, y, rfl, rfl, k _ W H (Grow.refl sb) rfl⟩⟩
theorem op2B {f : Value → Value → Sem Value} {g : Int → Int → Bool} (h : OpR X f (rI0 fun i j => .bl (g i j))) : Op2 X f cInt cInt cBool fun x y => some (g x y) :=
  ⟨_, h, fun W H x y v u z Q sb h1 h2 e k => by cases h1; cases h2; cases e; exact ⟨x, y, rfl, rfl, k _ W H (Grow.refl sb) rfl⟩⟩
theorem o_add : Op2 X (binaryOp .Add) cInt cInt cInt fun x y => some (x + y) := op2I op_add
theorem o_sub : Op2 X (binaryOp .Sub) cInt cInt cInt fun x y => some (x - y) := op2I op_sub
theorem o_mul : Op2 X (binaryOp .Mult) cInt cInt cInt mulR := ⟨_, op_mulW, fun W H x y v u z Q sb h1 h2 e k => by
  cases h1; cases h2
  unfold mulR at e
  split at e
  · rename_i hc
    cases e
    exact ⟨x, y, rfl, rfl, hc, k _ W H (Grow.refl sb) rfl⟩
  · cases e⟩
def CDivG (_ j : Int) : Prop := j ≠ 0 ∧ j.natAbs.log2 < 9000
theorem op_fdivG : OpR X (binaryOp .FloorDiv) (rI CDivG fun i j => .int (i.fdiv j)) := opI fun i j _ _ _ _ _ hc q => floordiv_int hc.1 q (.inl (PyProof.noPylong_of_log2 hc.2))
theorem o_fdiv : Op2 X (binaryOp .FloorDiv) cInt cInt cInt fdivR := ⟨_, op_fdivG, fun W H x y v u z Q sb h1 h2 e k => by
  cases h1; cases h2
  unfold fdivR at e
  split at e
  · rename_i hc
    cases e
    exact ⟨x, y, rfl, rfl, hc, k _ W H (Grow.refl sb) rfl⟩
  · cases e⟩
theorem o_mod : Op2 X (binaryOp .Mod) cInt cInt cInt fmodR := ⟨_, op_modN, fun W H x y v u z Q sb h1 h2 e k => by
  cases h1; cases h2
  unfold fmodR at e
  split at e
  · rename_i hc
    cases e
    exact ⟨x, y, rfl, rfl, hc, k _ W H (Grow.refl sb) rfl⟩
  · cases e⟩
theorem o_pow : Op2 X (binaryOp .Pow) cInt cInt cInt powR := ⟨_, op_pow, fun W H x y v u z Q sb h1 h2 e k => by
  cases h1; cases h2
  unfold powR at e
  split at e
  · rename_i hc
    cases e
    exact ⟨x, y, rfl, rfl, hc, k _ W H (Grow.refl sb) rfl⟩
  · cases e⟩
theorem o_lt : Op2 X (compareOp .Lt) cInt cInt cBool fun x y => some (decide (x < y)) := op2B op_lt
theorem o_le : Op2 X (compareOp .LtE) cInt cInt cBool fun x y => some (decide (x ≤ y)) := op2B op_le
theorem o_gt : Op2 X (compareOp .Gt) cInt cInt cBool fun x y => some (decide (y < x)) := op2B op_gt
theorem o_ge : Op2 X (compareOp .GtE) cInt cInt cBool fun x y => some (decide (y ≤ x)) := op2B op_ge
theorem o_eq : Op2 X (compareOp .Eq) cInt cInt cBool fun x y => some (decide (x = y)) := ⟨_, op_eq, fun W H x y v u z Q sb h1 h2 e k => by
  cases h1; cases h2; cases e
  refine ⟨rfl, k _ W H (Grow.refl sb) ?_⟩
  show V.bl _ = V.bl _
  rw [dec_int, Bool.beq_eq_decide_eq]⟩
theorem o_ne : Op2 X (compareOp .NotEq) cInt cInt cBool fun x y => some (!decide (x = y)) := ⟨_, op_ne, fun W H x y v u z Q sb h1 h2 e k => by
  cases h1; cases h2; cases e
  refine ⟨rfl, k _ W H (Grow.refl sb) ?_⟩
  show V.bl _ = V.bl _
  rw [dec_int, Bool.beq_eq_decide_eq]⟩
theorem o_eqS : Op2 X (compareOp .Eq) cStr cStr cBool fun x y => some (decide (x = y)) := ⟨_, op_eq, fun W H x y v u z Q sb h1 h2 e k => by
  cases h1; cases h2; cases e
  refine ⟨rfl, k _ W H (Grow.refl sb) ?_⟩
  show V.bl _ = V.bl _
  rw [dec_str, Bool.beq_eq_decide_eq]⟩
theorem o_neS : Op2 X (compareOp .NotEq) cStr cStr cBool fun x y => some (!decide (x = y)) := ⟨_, op_ne, fun W H x y v u z Q sb h1 h2 e k => by
  cases h1; cases h2; cases e
  refine ⟨rfl, k _ W H (Grow.refl sb) ?_⟩
  show V.bl _ = V.bl _
  rw [dec_str, Bool.beq_eq_decide_eq]⟩
theorem o_eqB : Op2 X (compareOp .Eq) cBool cBool cBool fun x y => some (decide (x = y)) := ⟨_, op_eq, fun W H x y v u z Q sb h1 h2 e k => by
  cases h1; cases h2; cases e
  refine ⟨rfl, k _ W H (Grow.refl sb) ?_⟩
  show V.bl _ = V.bl _
  rw [dec_bl, Bool.beq_eq_decide_eq]⟩
theorem o_neB : Op2 X (compareOp .NotEq) cBool cBool cBool fun x y => some (!decide (x = y)) := ⟨_, op_ne, fun W H x y v u z Q sb h1 h2 e k => by
  cases h1; cases h2; cases e
  refine ⟨rfl, k _ W H (Grow.refl sb) ?_⟩
  show V.bl _ = V.bl _
  rw [dec_bl, Bool.beq_eq_decide_eq]⟩
theorem ex_neg {J : Int → En X.K → Option ρ → Prop} (h : EX X C Γ a cInt r fun x Γ1 r1 => J (-x) Γ1 r1) : EX X C Γ (.UnaryOp .USub a pos) cInt r J := .mk fun z σ W H Q s hr k =>
  w_pe (pe_un un_neg pe_w) (h z σ W H _ s hr fun x Γ1 r1 W1 H1 v j1 hr1 s1 w1 q1 => ⟨x, q1, k _ Γ1 r1 W1 H1 _ j1 hr1 s1 w1 rfl⟩)
/-- is None, is not None, of an optional value -/
theorem et_isN {c : Cod X.K α} {J : Bool → En X.K → Option ρ → Prop} {j p2} (h : EX X C Γ a (cOpt c) r fun x Γ1 r1 => J (x.isNone) Γ1 r1) : ET X C Γ (.Compare a [.Is] [.Constant .none j p2] pos) r J := .mk fun z σ W H Q s hr k =>
  w_pt (pt_cmp (pc_isN pe_w)) (h z σ W H _ s hr fun x Γ1 r1 W1 H1 v j1 hr1 s1 w1 q1 => ⟨_, rfl, by
    have e : decide (v = V.non) = x.isNone := by
      cases x with
      | none => rw [show v = V.non from q1]; rfl
      | some y => exact decide_eq_false q1.1
    rw [e]; exact k _ Γ1 r1 W1 H1 j1 hr1 s1 w1⟩)
theorem et_notN {c : Cod X.K α} {J : Bool → En X.K → Option ρ → Prop} {j p2} (h : EX X C Γ a (cOpt c) r fun x Γ1 r1 => J (x.isSome) Γ1 r1) : ET X C Γ (.Compare a [.IsNot] [.Constant .none j p2] pos) r J := .mk fun z σ W H Q s hr k =>
  w_pt (pt_cmp (pc_notN pe_w)) (h z σ W H _ s hr fun x Γ1 r1 W1 H1 v j1 hr1 s1 w1 q1 => ⟨_, rfl, by
    have e : (!decide (v = V.non)) = x.isSome := by
      cases x with
      | none => rw [show v = V.non from q1]; rfl
      | some y => rw [decide_eq_false q1.1]; rfl
    rw [e]; exact k _ Γ1 r1 W1 H1 j1 hr1 s1 w1⟩)

/-! tests -/
theorem et_val {J : Bool → En X.K → Option ρ → Prop} (h : EX X C Γ e cBool r J) (he : ∀ whole, isTrue e X.env whole = (do let v ← whole; standAt e.pos; holding [v] (truthy v)) := by intro _; rfl) : ET X C Γ e r J := .mk fun z σ W H Q s hr k =>
  w_pt (pt_val pe_w he) (h z σ W H _ s hr fun x Γ1 r1 W1 H1 v j1 hr1 s1 w1 q1 => ⟨x, q1, k _ Γ1 r1 W1 H1 j1 hr1 s1 w1⟩)
theorem et_w {J : Bool → En X.K → Option ρ → Prop} (h : EW X C Γ e r J) : ET X C Γ e r J := .mk fun z σ W H Q s hr k => w_pt pw_w.pt (h z σ W H _ s hr k)
/-- what a part gives, told by a state s -/
def Fin {K : Frag} (C : Ct) {δ : Type} (px : δ → α) (Γs : δ → En K) : α → En K → Option δ → Prop := fun x Γ' r' => ∃ s, r' = some s ∧ px s = x ∧ Wk C Γ' (Γs s)
theorem Fin.use {K : Frag} {C : Ct} {δ : Type} {px : δ → α} {Γs : δ → En K} {x : α} {Γ' : En K} {r' : Option δ} {s : δ} (h : Fin C px Γs x Γ' r') (e : r' = some s) : px s = x ∧ Wk C Γ' (Γs s) := by
  obtain ⟨s', e1, e2, e3⟩ := h
  rw [e] at e1; cases e1
  exact ⟨e2, e3⟩
theorem fin {K : Frag} {C : Ct} {δ : Type} {px : δ → α} {Γs : δ → En K} {Γ' : En K} {s : δ} (w : Wk C Γ' (Γs s)) : Fin C px Γs (px s) Γ' (some s) := ⟨s, rfl, rfl, w⟩
theorem ew_not {J : Bool → En X.K → Option ρ → Prop} (h : ET X C Γ a r fun x Γ1 r1 => J (!x) Γ1 r1) : ET X C Γ (.UnaryOp .Not a pos) r J := .mk fun z σ W H Q s hr k =>
  w_pt (pt_not pt_w) (h z σ W H _ s hr fun x Γ1 r1 W1 H1 j1 hr1 s1 w1 => k _ Γ1 r1 W1 H1 j1 hr1 s1 w1)
theorem ew_and1 {J : Bool → En X.K → Option ρ → Prop} (h : ET X C Γ a r J) : EW X C Γ (.BoolOp .And [a] pos) r J := .mk fun z σ W H Q s hr k => w_pw (pw_and1 pt_w) (h z σ W H _ s hr k)
theorem ew_or1 {J : Bool → En X.K → Option ρ → Prop} (h : ET X C Γ a r J) : EW X C Γ (.BoolOp .Or [a] pos) r J := .mk fun z σ W H Q s hr k => w_pw (pw_or1 pt_w) (h z σ W H _ s hr k)
/-- a and b, b asked only where a is true; δ: what b may change -/
theorem ew_and {δ : Type} {rest : List Expr} {J : Bool → En X.K → Option ρ → Prop} (px : δ → Bool) (Γs : δ → En X.K)
    (h : ET X C Γ a r fun x Γ1 r1 => ∃ m s0 k, r1 = (cond x m (some s0)) >>= k ∧ px s0 = false ∧ Wk C Γ1 (Γs s0) ∧ EW X C Γ1 (.BoolOp .And (b :: rest) pos) m (Fin C px Γs) ∧ ∀ s, J (px s) (Γs s) (k s)) : EW X C Γ (.BoolOp .And (a :: b :: rest) pos) r J := .mk fun z σ W H Q s hr k => by
  refine w_pw (pw_and pt_w pw_w) (h z σ W H _ s hr fun x Γ1 r1 W1 H1 j1 hr1 s1 w1 => ?_)
  obtain ⟨m, s0, k1, e1, p0, g0, hb, jj⟩ := j1
  cases x with
  | true =>
    rw [if_pos rfl]
    rw [e1] at hr1
    have hr1 : m >>= k1 = some z := hr1
    cases hm : m with
    | none => rw [hm] at hr1; cases hr1
    | some t =>
      rw [hm] at hr1
      refine hb t σ W1 H1 _ s1 hm fun x Γ2 r2 W2 H2 j2 hr2 s2 w2 => ?_
      obtain ⟨e3, wk⟩ := j2.use hr2
      obtain ⟨W3, w3, s3⟩ := wk σ W2 H2 s2
      rw [← e3]
      exact k _ _ _ W3 H2 (jj t) hr1 s3 ((w1.trans w2).trans w3)
  | false =>
    rw [if_neg Bool.false_ne_true]
    rw [e1] at hr1
    obtain ⟨W3, w3, s3⟩ := g0 σ W1 H1 s1
    rw [← p0]
    exact k _ _ _ W3 H1 (jj s0) hr1 s3 (w1.trans w3)
theorem ew_or {δ : Type} {rest : List Expr} {J : Bool → En X.K → Option ρ → Prop} (px : δ → Bool) (Γs : δ → En X.K)
    (h : ET X C Γ a r fun x Γ1 r1 => ∃ m s0 k, r1 = (cond x (some s0) m) >>= k ∧ px s0 = true ∧ Wk C Γ1 (Γs s0) ∧ EW X C Γ1 (.BoolOp .Or (b :: rest) pos) m (Fin C px Γs) ∧ ∀ s, J (px s) (Γs s) (k s)) : EW X C Γ (.BoolOp .Or (a :: b :: rest) pos) r J := .mk fun z σ W H Q s hr k => by
  refine w_pw (pw_or pt_w pw_w) (h z σ W H _ s hr fun x Γ1 r1 W1 H1 j1 hr1 s1 w1 => ?_)
  obtain ⟨m, s0, k1, e1, p0, g0, hb, jj⟩ := j1
  cases x with
  | false =>
    rw [if_neg Bool.false_ne_true]
    rw [e1] at hr1
    have hr1 : m >>= k1 = some z := hr1
    cases hm : m with
    | none => rw [hm] at hr1; cases hr1
    | some t =>
      rw [hm] at hr1
      refine hb t σ W1 H1 _ s1 hm fun x Γ2 r2 W2 H2 j2 hr2 s2 w2 => ?_
      obtain ⟨e3, wk⟩ := j2.use hr2
      obtain ⟨W3, w3, s3⟩ := wk σ W2 H2 s2
      rw [← e3]
      exact k _ _ _ W3 H2 (jj t) hr1 s3 ((w1.trans w2).trans w3)
  | true =>
    rw [if_pos rfl]
    rw [e1] at hr1
    obtain ⟨W3, w3, s3⟩ := g0 σ W1 H1 s1
    rw [← p0]
    exact k _ _ _ W3 H1 (jj s0) hr1 s3 (w1.trans w3)
/-- where b changes nothing and always goes: a && b -/
theorem ew_andT {rest : List Expr} {J : Bool → En X.K → Option ρ → Prop}
    (h : ET X C Γ a r fun x Γ1 r1 => ∃ y, EW X C Γ1 (.BoolOp .And (b :: rest) pos) (some y) (Fin C (fun x => x) fun _ => Γ1) ∧ J (x && y) Γ1 r1) : EW X C Γ (.BoolOp .And (a :: b :: rest) pos) r J := .mk fun z σ W H Q s hr k => by
  refine w_pw (pw_and pt_w pw_w) (h z σ W H _ s hr fun x Γ1 r1 W1 H1 j1 hr1 s1 w1 => ?_)
  obtain ⟨y, hb, jj⟩ := j1
  cases x with
  | true =>
    rw [if_pos rfl]
    refine hb y σ W1 H1 _ s1 rfl fun x Γ2 r2 W2 H2 j2 hr2 s2 w2 => ?_
    obtain ⟨e3, wk⟩ := j2.use hr2
    obtain ⟨W3, w3, s3⟩ := wk σ W2 H2 s2
    rw [← e3]
    exact k _ _ _ W3 H2 jj hr1 s3 ((w1.trans w2).trans w3)
  | false =>
    rw [if_neg Bool.false_ne_true]
    exact k _ _ _ W1 H1 jj hr1 s1 w1
theorem ew_orT {rest : List Expr} {J : Bool → En X.K → Option ρ → Prop}
    (h : ET X C Γ a r fun x Γ1 r1 => ∃ y, EW X C Γ1 (.BoolOp .Or (b :: rest) pos) (some y) (Fin C (fun x => x) fun _ => Γ1) ∧ J (x || y) Γ1 r1) : EW X C Γ (.BoolOp .Or (a :: b :: rest) pos) r J := .mk fun z σ W H Q s hr k => by
  refine w_pw (pw_or pt_w pw_w) (h z σ W H _ s hr fun x Γ1 r1 W1 H1 j1 hr1 s1 w1 => ?_)
  obtain ⟨y, hb, jj⟩ := j1
  cases x with
  | false =>
    rw [if_neg Bool.false_ne_true]
    refine hb y σ W1 H1 _ s1 rfl fun x Γ2 r2 W2 H2 j2 hr2 s2 w2 => ?_
    obtain ⟨e3, wk⟩ := j2.use hr2
    obtain ⟨W3, w3, s3⟩ := wk σ W2 H2 s2
    rw [← e3]
    exact k _ _ _ W3 H2 jj hr1 s3 ((w1.trans w2).trans w3)
  | true =>
    rw [if_pos rfl]
    exact k _ _ _ W1 H1 jj hr1 s1 w1
/-- .. as values -/
theorem ex_one {op} {J : Bool → En X.K → Option ρ → Prop} (h : EX X C Γ a cBool r J) : EX X C Γ (.BoolOp op [a] pos) cBool r J := .mk fun z σ W H Q s hr k => w_pe (pe_one pe_w) (h z σ W H _ s hr k)
theorem ex_not {J : Bool → En X.K → Option ρ → Prop} (h : EX X C Γ a cBool r fun x Γ1 r1 => J (!x) Γ1 r1) : EX X C Γ (.UnaryOp .Not a pos) cBool r J := .mk fun z σ W H Q s hr k =>
  w_pe (pe_not pe_w) (h z σ W H _ s hr fun x Γ1 r1 W1 H1 v j1 hr1 s1 w1 q1 => ⟨x, q1, k _ Γ1 r1 W1 H1 _ j1 hr1 s1 w1 rfl⟩)
theorem ex_and {δ : Type} {rest : List Expr} {J : Bool → En X.K → Option ρ → Prop} (px : δ → Bool) (Γs : δ → En X.K)
    (h : EX X C Γ a cBool r fun x Γ1 r1 => ∃ m s0 k, r1 = (cond x m (some s0)) >>= k ∧ px s0 = false ∧ Wk C Γ1 (Γs s0) ∧ EX X C Γ1 (.BoolOp .And (b :: rest) pos) cBool m (Fin C px Γs) ∧ ∀ s, J (px s) (Γs s) (k s)) : EX X C Γ (.BoolOp .And (a :: b :: rest) pos) cBool r J := .mk fun z σ W H Q s hr k => by
  refine w_pe (pe_and pe_w pe_w) (h z σ W H _ s hr fun x Γ1 r1 W1 H1 v j1 hr1 s1 w1 q1 => ⟨x, q1, ?_⟩)
  obtain ⟨m, s0, k1, e1, p0, g0, hb, jj⟩ := j1
  cases x with
  | true =>
    rw [if_pos rfl]
    rw [e1] at hr1
    have hr1 : m >>= k1 = some z := hr1
    cases hm : m with
    | none => rw [hm] at hr1; cases hr1
    | some t =>
      rw [hm] at hr1
      refine hb t σ W1 H1 _ s1 hm fun x Γ2 r2 W2 H2 v2 j2 hr2 s2 w2 q2 => ?_
      obtain ⟨e3, wk⟩ := j2.use hr2
      obtain ⟨W3, w3, s3⟩ := wk σ W2 H2 s2
      rw [← e3] at q2
      exact k _ _ _ W3 H2 v2 (jj t) hr1 s3 ((w1.trans w2).trans w3) q2
  | false =>
    rw [if_neg Bool.false_ne_true]
    rw [e1] at hr1
    obtain ⟨W3, w3, s3⟩ := g0 σ W1 H1 s1
    exact k _ _ _ W3 H1 _ (jj s0) hr1 s3 (w1.trans w3) (by rw [p0]; rfl)
theorem ex_or {δ : Type} {rest : List Expr} {J : Bool → En X.K → Option ρ → Prop} (px : δ → Bool) (Γs : δ → En X.K)
    (h : EX X C Γ a cBool r fun x Γ1 r1 => ∃ m s0 k, r1 = (cond x (some s0) m) >>= k ∧ px s0 = true ∧ Wk C Γ1 (Γs s0) ∧ EX X C Γ1 (.BoolOp .Or (b :: rest) pos) cBool m (Fin C px Γs) ∧ ∀ s, J (px s) (Γs s) (k s)) : EX X C Γ (.BoolOp .Or (a :: b :: rest) pos) cBool r J := .mk fun z σ W H Q s hr k => by
  refine w_pe (pe_or pe_w pe_w) (h z σ W H _ s hr fun x Γ1 r1 W1 H1 v j1 hr1 s1 w1 q1 => ⟨x, q1, ?_⟩)
  obtain ⟨m, s0, k1, e1, p0, g0, hb, jj⟩ := j1
  cases x with
  | false =>
    rw [if_neg Bool.false_ne_true]
    rw [e1] at hr1
    have hr1 : m >>= k1 = some z := hr1
    cases hm : m with
    | none => rw [hm] at hr1; cases hr1
    | some t =>
      rw [hm] at hr1
      refine hb t σ W1 H1 _ s1 hm fun x Γ2 r2 W2 H2 v2 j2 hr2 s2 w2 q2 => ?_
      obtain ⟨e3, wk⟩ := j2.use hr2
      obtain ⟨W3, w3, s3⟩ := wk σ W2 H2 s2
      rw [← e3] at q2
      exact k _ _ _ W3 H2 v2 (jj t) hr1 s3 ((w1.trans w2).trans w3) q2
  | true =>
    rw [if_pos rfl]
    rw [e1] at hr1
    obtain ⟨W3, w3, s3⟩ := g0 σ W1 H1 s1
    exact k _ _ _ W3 H1 _ (jj s0) hr1 s3 (w1.trans w3) (by rw [p0]; rfl)
theorem ex_andT {rest : List Expr} {J : Bool → En X.K → Option ρ → Prop}
    (h : EX X C Γ a cBool r fun x Γ1 r1 => ∃ y, EX X C Γ1 (.BoolOp .And (b :: rest) pos) cBool (some y) (Fin C (fun x => x) fun _ => Γ1) ∧ J (x && y) Γ1 r1) : EX X C Γ (.BoolOp .And (a :: b :: rest) pos) cBool r J := .mk fun z σ W H Q s hr k => by
  refine w_pe (pe_and pe_w pe_w) (h z σ W H _ s hr fun x Γ1 r1 W1 H1 v j1 hr1 s1 w1 q1 => ⟨x, q1, ?_⟩)
  obtain ⟨y, hb, jj⟩ := j1
  cases x with
  | true =>
    rw [if_pos rfl]
    refine hb y σ W1 H1 _ s1 rfl fun x Γ2 r2 W2 H2 v2 j2 hr2 s2 w2 q2 => ?_
    obtain ⟨e3, wk⟩ := j2.use hr2
    obtain ⟨W3, w3, s3⟩ := wk σ W2 H2 s2
    rw [← e3] at q2
    exact k _ _ _ W3 H2 v2 jj hr1 s3 ((w1.trans w2).trans w3) q2
  | false =>
    rw [if_neg Bool.false_ne_true]
    exact k _ _ _ W1 H1 _ jj hr1 s1 w1 rfl
theorem ex_orT {rest : List Expr} {J : Bool → En X.K → Option ρ → Prop}
    (h : EX X C Γ a cBool r fun x Γ1 r1 => ∃ y, EX X C Γ1 (.BoolOp .Or (b :: rest) pos) cBool (some y) (Fin C (fun x => x) fun _ => Γ1) ∧ J (x || y) Γ1 r1) : EX X C Γ (.BoolOp .Or (a :: b :: rest) pos) cBool r J := .mk fun z σ W H Q s hr k => by
  refine w_pe (pe_or pe_w pe_w) (h z σ W H _ s hr fun x Γ1 r1 W1 H1 v j1 hr1 s1 w1 q1 => ⟨x, q1, ?_⟩)
  obtain ⟨y, hb, jj⟩ := j1
  cases x with
  | false =>
    rw [if_neg Bool.false_ne_true]
    refine hb y σ W1 H1 _ s1 rfl fun x Γ2 r2 W2 H2 v2 j2 hr2 s2 w2 q2 => ?_
    obtain ⟨e3, wk⟩ := j2.use hr2
    obtain ⟨W3, w3, s3⟩ := wk σ W2 H2 s2
    rw [← e3] at q2
    exact k _ _ _ W3 H2 v2 jj hr1 s3 ((w1.trans w2).trans w3) q2
  | true =>
    rw [if_pos rfl]
    exact k _ _ _ W1 H1 _ jj hr1 s1 w1 rfl
/-- a if t else b -/
theorem ex_if {δ : Type} {t : Expr} {c : Cod X.K α} {J : α → En X.K → Option ρ → Prop} (px : δ → α) (Γs : δ → En X.K)
    (h : ET X C Γ t r fun x Γ1 r1 => ∃ ma mb k, r1 = (cond x ma mb) >>= k ∧ EX X C Γ1 a c ma (Fin C px Γs) ∧ EX X C Γ1 b c mb (Fin C px Γs) ∧ ∀ s, J (px s) (Γs s) (k s)) : EX X C Γ (.IfExp t a b pos) c r J := .mk fun z σ W H Q s hr k => by
  refine w_pe (pe_ifExp pt_w pe_w pe_w) (h z σ W H _ s hr fun x Γ1 r1 W1 H1 j1 hr1 s1 w1 => ?_)
  obtain ⟨ma, mb, k1, e1, ha, hb, jj⟩ := j1
  rw [e1] at hr1
  have go : ∀ (m : Option δ) (d : Expr), m >>= k1 = some z → EX X C Γ1 d c m (Fin C px Γs) → wpe X d σ H1 Q := fun m d hr1 hd => by
    cases hm : m with
    | none => rw [hm] at hr1; cases hr1
    | some t =>
      rw [hm] at hr1
      refine hd t σ W1 H1 _ s1 hm fun x Γ2 r2 W2 H2 v2 j2 hr2 s2 w2 q2 => ?_
      obtain ⟨e3, wk⟩ := j2.use hr2
      obtain ⟨W3, w3, s3⟩ := wk σ W2 H2 s2
      rw [← e3] at q2
      exact k _ _ _ W3 H2 v2 (jj t) hr1 s3 ((w1.trans w2).trans w3) (c.mono w3 q2)
  cases x with
  | true => rw [if_pos rfl]; exact go ma a hr1 ha
  | false => rw [if_neg Bool.false_ne_true]; exact go mb b hr1 hb
theorem ex_ifT {t : Expr} {c : Cod X.K α} {J : α → En X.K → Option ρ → Prop}
    (h : ET X C Γ t r fun x Γ1 r1 => ∃ y y', EX X C Γ1 a c (some y) (Fin C (fun x => x) fun _ => Γ1) ∧ EX X C Γ1 b c (some y') (Fin C (fun x => x) fun _ => Γ1) ∧ J (cond x y y') Γ1 r1) : EX X C Γ (.IfExp t a b pos) c r J := .mk fun z σ W H Q s hr k => by
  refine w_pe (pe_ifExp pt_w pe_w pe_w) (h z σ W H _ s hr fun x Γ1 r1 W1 H1 j1 hr1 s1 w1 => ?_)
  obtain ⟨y, y', ha, hb, jj⟩ := j1
  have go : ∀ (y : α) (d : Expr), J y Γ1 r1 → EX X C Γ1 d c (some y) (Fin C (fun x => x) fun _ => Γ1) → wpe X d σ H1 Q := fun y d jj hd => by
    refine hd y σ W1 H1 _ s1 rfl fun x Γ2 r2 W2 H2 v2 j2 hr2 s2 w2 q2 => ?_
    obtain ⟨e3, wk⟩ := j2.use hr2
    obtain ⟨W3, w3, s3⟩ := wk σ W2 H2 s2
    rw [← e3] at q2
    exact k _ _ _ W3 H2 v2 jj hr1 s3 ((w1.trans w2).trans w3) (c.mono w3 q2)
  cases x with
  | true => rw [if_pos rfl]; exact go y a jj ha
  | false => rw [if_neg Bool.false_ne_true]; exact go y' b jj hb

/-! rows of arguments, displays -/
theorem ea_nil {J : Unit → En X.K → Option ρ → Prop} (h : J () Γ r) : EA X C Γ [] tc0 r J := .mk fun z σ W H Q s hr k => w_pa pa_nil (k () Γ r W H [] h hr s (Same.refl _) rfl)
theorem ea_one {c : Cod X.K α} {J : α → En X.K → Option ρ → Prop} (h : EX X C Γ e c r J) (hs : starEach [e] X.env = (false, eval e X.env) :: starEach [] X.env := by rfl) : EA X C Γ [e] (tc1 c) r J := .mk fun z σ W H Q s hr k =>
  w_pa (pa_cons pe_w pa_nil hs) (h z σ W H _ s hr fun x Γ1 r1 W1 H1 v j1 hr1 s1 w1 q1 => k x Γ1 r1 W1 H1 [v] j1 hr1 s1 w1 ⟨v, rfl, q1⟩)
theorem ea_cons {c : Cod X.K α} {t : TC X.K β} {J : α × β → En X.K → Option ρ → Prop} (h : EX X C Γ e c r fun x Γ1 r1 => EA X C Γ1 es t r1 fun y Γ2 r2 => J (x, y) Γ2 r2)
    (hs : starEach (e :: es) X.env = (false, eval e X.env) :: starEach es X.env := by rfl) : EA X C Γ (e :: es) (tcC c t) r J := .mk fun z σ W H Q s hr k =>
  w_pa (pa_cons pe_w pa_w hs) (h z σ W H _ s hr fun x Γ1 r1 W1 H1 v j1 hr1 s1 w1 q1 => j1 z σ W1 H1 _ s1 hr1 fun y Γ2 r2 W2 H2 vs j2 hr2 s2 w2 q2 =>
    k (x, y) Γ2 r2 W2 H2 (v :: vs) j2 hr2 s2 (w1.trans w2) ⟨v, vs, rfl, c.mono w2 q1, q2⟩)
theorem el_nil {c : Cod X.K α} {J : List α → En X.K → Option ρ → Prop} (h : J [] Γ r) : EL X C Γ [] c r J := .mk fun z σ W H Q s hr k => w_pa pa_nil (k [] Γ r W H [] h hr s (Same.refl _) .nil rfl)
theorem el_cons {c : Cod X.K α} {J : List α → En X.K → Option ρ → Prop} (h : EX X C Γ e c r fun x Γ1 r1 => EL X C Γ1 es c r1 fun y Γ2 r2 => J (x :: y) Γ2 r2)
    (hs : starEach (e :: es) X.env = (false, eval e X.env) :: starEach es X.env := by rfl) : EL X C Γ (e :: es) c r J := .mk fun z σ W H Q s hr k =>
  w_pa (pa_cons pe_w pa_w hs) (h z σ W H _ s hr fun x Γ1 r1 W1 H1 v j1 hr1 s1 w1 q1 => j1 z σ W1 H1 _ s1 hr1 fun y Γ2 r2 W2 H2 vs j2 hr2 s2 w2 q2 hl =>
    k (x :: y) Γ2 r2 W2 H2 (v :: vs) j2 hr2 s2 (w1.trans w2) (.cons (c.mono w2 q1) q2) (by rw [List.length_cons, List.length_cons, hl]))
theorem ex_tup {t : TC X.K α} {J : α → En X.K → Option ρ → Prop} {x1} (h : EA X C Γ es t r J) (hn : t.n ≤ 1000 := by exact Nat.le_of_ble_eq_true rfl) : EX X C Γ (.Tuple es x1 pos) (cTup t) r J := .mk fun z σ W H Q s hr k =>
  w_pe (pe_tup pa_w) (h z σ W H _ s hr fun x Γ1 r1 W1 H1 vs j1 hr1 s1 w1 q1 => ⟨by rw [t.len q1]; exact Nat.le_trans hn (by decide), fun p hp => by
    have G := Grow.new (o := .tup vs) s1.sub hp
    exact k x Γ1 r1 _ _ _ j1 hr1 (s1.grow G) (w1.trans G.w) ⟨p, vs, rfl, SqT.of upd_same, t.mono G.w q1⟩⟩)
theorem ex_tupS {c : Cod X.K α} {J : List α → En X.K → Option ρ → Prop} {x1} (h : EL X C Γ es c r J) (hn : es.length.ble 1000 = true := by rfl) : EX X C Γ (.Tuple es x1 pos) (cSeq c) r J := .mk fun z σ W H Q s hr k =>
  w_pe (pe_tup pa_w) (h z σ W H _ s hr fun x Γ1 r1 W1 H1 vs j1 hr1 s1 w1 q1 hl => ⟨by rw [q1.length, hl]; exact Nat.le_trans (Nat.le_of_ble_eq_true hn) (by decide), fun p hp => by
    have G := Grow.new (o := .tup vs) s1.sub hp
    exact k x Γ1 r1 _ _ _ j1 hr1 (s1.grow G) (w1.trans G.w) ⟨p, vs, rfl, SqT.of upd_same, q1.mono G.w⟩⟩)
theorem ex_lst {c : Cod X.K α} {J : List α → En X.K → Option ρ → Prop} (h : EL X C Γ es c r J) (hn : es.length.ble 1000 = true := by rfl) : EX X C Γ (.List es pos) (cLst c) r J := .mk fun z σ W H Q s hr k =>
  w_pe (pe_lst pa_w) (h z σ W H _ s hr fun x Γ1 r1 W1 H1 vs j1 hr1 s1 w1 q1 hl => ⟨by rw [q1.length, hl]; exact Nat.le_trans (Nat.le_of_ble_eq_true hn) (by decide), fun p hp => by
    have G := Grow.new (o := .lst vs) s1.sub hp
    exact k x Γ1 r1 _ _ _ j1 hr1 (s1.grow G) (w1.trans G.w) ⟨p, vs, rfl, upd_same, q1.mono G.w⟩⟩)
/-- a new object that nobody owns yet -/
theorem Sat.fresh {σ : L2.St} {W H : Hp} {p : Addr} {o : HO} (s : Sat C Γ σ W H) (hp : H p = none) : Sat C Γ σ W (upd H p o) ∧ W p = none ∧ C.H p = none ∧ Apart Γ σ p ∧ C.a ≠ some p := by
  have wp : W p = none := Same.free s.sub hp
  refine ⟨s.grow ⟨Same.refl _, fun b u e => by rw [upd_ne (ne_of_none e hp)]; exact e, fun b u e => by rw [upd_ne (ne_of_none e wp)]; exact s.sub b u e, fun _ _ h => h⟩, wp, ?_, s.apart hp, fun z => s.lb p (.inr z) hp⟩
  cases q : C.H p with
  | none => rfl
  | some u => exact absurd hp (s.li p (by rw [q]; simp))
theorem ef_lst {c : Cod X.K α} {J : List α → En X.K → Option ρ → Prop} (h : EL X C Γ es c r J) (hn : es.length.ble 1000 = true := by rfl) : EF X C Γ (.List es pos) (lstC c) r J := .mk fun z σ W H Q s hr k =>
  w_pe (pe_lst pa_w) (h z σ W H _ s hr fun x Γ1 r1 W1 H1 vs j1 hr1 s1 w1 q1 hl => ⟨by rw [q1.length, hl]; exact Nat.le_trans (Nat.le_of_ble_eq_true hn) (by decide), fun p hp => by
    obtain ⟨s2, wp, cp, ap, la⟩ := s1.fresh (o := .lst vs) hp
    exact k x Γ1 r1 _ _ p _ j1 hr1 s2 w1 wp cp upd_same ⟨vs, rfl, q1⟩ ap la⟩)
/-- a new list from now on stands still -/
theorem ex_froz {c : Cod X.K α} {J : List α → En X.K → Option ρ → Prop} (h : EF X C Γ e (lstC c) r J) : EX X C Γ e (cLst c) r J := .mk fun z σ W H Q s hr k =>
  h z σ W H _ s hr fun x Γ1 r1 W1 H1 p o j1 hr1 s1 w1 wp cp hp ct ap lap => by
    obtain ⟨vs, rfl, q⟩ := ct
    have w : Same W1 (upd W1 p (.lst vs)) := fun b u e => by rw [upd_ne (ne_of_none e wp)]; exact e
    refine k x Γ1 r1 _ H1 _ j1 hr1 ⟨fun i e he => ?_, s1.ap, fun b u e => ?_, s1.old.trans w, s1.la, s1.fr, s1.li, fun b h1 h2 => ?_, s1.lb⟩ (w1.trans w) ⟨p, vs, rfl, upd_same, q.mono w⟩
    · have t := s1.sl i e he
      cases e with
      | no => trivial
      | im d x => obtain ⟨v, h1, h2⟩ := t; exact ⟨v, h1, d.mono w h2⟩
      | ow d x =>
        obtain ⟨a, ob, f1, f2, f3, f4, f5⟩ := t
        have na : a ≠ p := fun z => by
          subst z
          exact ap i ⟨_, he, rfl⟩ (getD_some f1)
        exact ⟨a, ob, f1, by rw [upd_ne na]; exact f2, f3, f4, d.mono w f5⟩
      | lp => exact t
      | ln d x =>
        obtain ⟨a, ob, f1, f2, f4, f5⟩ := t
        have na : a ≠ p := fun z => by subst z; exact lap f1
        exact ⟨a, ob, f1, by rw [upd_ne na]; exact f2, f4, d.mono w f5⟩
    · by_cases hb : b = p
      · subst hb; rw [upd_same] at e; cases e; exact hp
      · rw [upd_ne hb] at e; exact s1.sub b u e
    · have hb : b ≠ p := fun z => by subst z; exact h1 cp
      rw [upd_ne hb]; exact s1.nw b h1 h2
end
end Ty

set_option maxHeartbeats 4000000
namespace Ty
open PySem PySem.Spec PyProof.Rows L2

section
variable {X : Cx} {C : Ct} {ρ α β γ : Type} {Γ : En X.K} {e a b : Expr} {es : List Expr} {r : Option ρ} {pos p p2 p3 : Pos}
theorem bind_some {δ : Type} {m : Option δ} {k : δ → Option ρ} {z : ρ} (h : m >>= k = some z) : ∃ t, m = some t ∧ k t = some z := by
  cases m with
  | none => cases h
  | some t => exact ⟨t, rfl, h⟩

/-! places -/
theorem ex_ixT {t : TC X.K α} {c : Cod X.K β} {p' : α → β} {i : Nat} {J : β → En X.K → Option ρ → Prop} {j} (n : Nth t i c p') (h : EX X C Γ a (cTup t) r fun x Γ1 r1 => J (p' x) Γ1 r1) : EX X C Γ (.Subscript a (.Constant (.int (i : Int)) j p2) pos) c r J := .mk fun z σ W H Q s hr k =>
  w_pe (pe_ix ix_tup pe_w pe_int (fun _ _ => rfl)) (h z σ W H _ s hr fun x Γ1 r1 W1 H1 v j1 hr1 s1 w1 q1 => by
    obtain ⟨ad, vs, rfl, h2, h3⟩ := q1
    obtain ⟨w, e1, e2⟩ := n.get h3
    exact ⟨ad, vs, (i : Int), w, rfl, rfl, Same.tup s1.sub h2, atI_nat e1, k _ Γ1 r1 W1 H1 w j1 hr1 s1 w1 e2⟩)
theorem row_ixN {c : Cod X.K α} {H : Hp} {vs : List V} {xs : List α} {i : Int} {x : α} (h : Row c H vs xs) (e : atI xs i = some x) : ∃ v, atI vs i = some v ∧ c.rp H v x := by
  unfold atI at e ⊢
  rw [h.length]
  cases q : ixN xs.length i with
  | none => rw [q] at e; cases e
  | some j => rw [q] at e; exact h.get (i := j) e
theorem ex_ixS {c : Cod X.K α} {J : α → En X.K → Option ρ → Prop} (h : EX X C Γ a (cSeq c) r fun x Γ1 r1 => EX X C Γ1 b cInt r1 fun i Γ2 r2 => ∃ k, r2 = atI x i >>= k ∧ ∀ z, J z Γ2 (k z)) (hp : PlainIx b := by exact fun _ _ => rfl) :
    EX X C Γ (.Subscript a b pos) c r J := .mk fun z σ W H Q s hr k =>
  w_pe (pe_ix ix_tup pe_w pe_w hp) (h z σ W H _ s hr fun x Γ1 r1 W1 H1 v j1 hr1 s1 w1 q1 => j1 z σ W1 H1 _ s1 hr1 fun i Γ2 r2 W2 H2 u j2 hr2 s2 w2 q2 => by
    obtain ⟨ad, vs, rfl, h2, h3⟩ := q1
    obtain ⟨k2, e2, j2⟩ := j2
    rw [e2] at hr2
    obtain ⟨t, et, ht⟩ := bind_some hr2
    obtain ⟨w, f1, f2⟩ := row_ixN (h3.mono w2) et
    exact ⟨ad, vs, i, w, rfl, q2, Same.tup s2.sub (Same.tup w2 h2), f1, k t Γ2 _ W2 H2 w (j2 t) ht s2 (w1.trans w2) f2⟩)
theorem ex_ixL {c : Cod X.K α} {J : α → En X.K → Option ρ → Prop} (h : EX X C Γ a (cLst c) r fun x Γ1 r1 => EX X C Γ1 b cInt r1 fun i Γ2 r2 => ∃ k, r2 = atI x i >>= k ∧ ∀ z, J z Γ2 (k z)) (hp : PlainIx b := by exact fun _ _ => rfl) :
    EX X C Γ (.Subscript a b pos) c r J := .mk fun z σ W H Q s hr k =>
  w_pe (pe_ix ix_list pe_w pe_w hp) (h z σ W H _ s hr fun x Γ1 r1 W1 H1 v j1 hr1 s1 w1 q1 => j1 z σ W1 H1 _ s1 hr1 fun i Γ2 r2 W2 H2 u j2 hr2 s2 w2 q2 => by
    obtain ⟨ad, vs, rfl, h2, h3⟩ := q1
    obtain ⟨k2, e2, j2⟩ := j2
    rw [e2] at hr2
    obtain ⟨t, et, ht⟩ := bind_some hr2
    obtain ⟨w, f1, f2⟩ := row_ixN (h3.mono w2) et
    exact ⟨ad, vs, i, w, rfl, q2, SqL.of (s2.sub _ _ (w2 _ _ h2)), f1, k t Γ2 _ W2 H2 w (j2 t) ht s2 (w1.trans w2) f2⟩)
/-- what a name owns, looked at -/
theorem Sat.seen {σ : L2.St} {W H : Hp} {i : Nat} {c : Cel X.K α} {x : α} (s : Sat C Γ σ W H) (h : Γ[i]? = some (.ow c x)) : ∃ ad o, σ[i]? = some (some (.ref ad)) ∧ H ad = some o ∧ c.ct W o x := by
  obtain ⟨ad, o, e1, e2, e3, e4, e5⟩ := s.sl i _ h
  exact ⟨ad, o, getD_some e1, e4, e5⟩
theorem vis_all {n : Str} (hv : Vis X.env.scope n) : Vis X.env.scope n := hv
theorem ex_ixO {c : Cod X.K α} {x : List α} {J : α → En X.K → Option ρ → Prop} {n : Str} (i : Nat)
    (h : EX X C Γ b cInt r fun j Γ1 r1 => Γ1[i]? = some (.ow (lstC c) x) ∧ ∃ k, r1 = atI x j >>= k ∧ ∀ z, J z Γ1 (k z)) (hN : X.N[i]? = some n := by rfl) (hΓ : Γ[i]? = some (.ow (lstC c) x) := by rfl)
    (hv : Vis X.env.scope n := by first | exact Or.inl rfl | exact Or.inr (Or.inl rfl) | exact Or.inr (Or.inr rfl)) (hp : PlainIx b := by exact fun _ _ => rfl) (hd : (n == ("__debug__" : Str)) = false := by decide) (hcd : (n == ("__classdict__" : Str)) = false := by decide) :
    EX X C Γ (.Subscript (.Name n p) b pos) c r J := .mk fun z σ W H Q s hr k =>
  w_pe (pe_ix ix_list (pe_var hN hv hd hcd) pe_w hp) (by
    obtain ⟨ad, o, e1, e4, vs, rfl, rw1⟩ := s.seen hΓ
    refine ⟨_, e1, h z σ W H _ s hr fun j Γ1 r1 W1 H1 v j1 hr1 s1 w1 q1 => ?_⟩
    obtain ⟨g1, k2, e2, j2⟩ := j1
    rw [e2] at hr1
    obtain ⟨t, et, ht⟩ := bind_some hr1
    obtain ⟨ad', o', f1, f4, vs', rfl, rw2⟩ := s1.seen g1
    rw [e1] at f1; cases f1
    obtain ⟨w, y1, y2⟩ := row_ixN rw2 et
    exact ⟨ad, vs', j, w, rfl, q1, SqL.of f4, y1, k t Γ1 _ W1 H1 w (j2 t) ht s1 w1 y2⟩)

/-! built-in functions -/
def CallB (X : Cx) (f : Value) (t : TC X.K α) (c : Cod X.K β) (g : α → Option β) : Prop :=
  ∃ r, CallR X f r ∧ ∀ W H vs x z (Q : VK), Same W H → t.rp W vs x → g x = some z → (∀ w W' H', Grow W H W' H' → c.rp W' w z → Q w H') → r vs H Q
/-- .. that give a new object -/
def CallN (X : Cx) (f : Value) (t : TC X.K α) (c : Cel X.K β) (g : α → Option β) : Prop :=
  ∃ r, CallR X f r ∧ ∀ W H vs x z (Q : VK), Same W H → t.rp W vs x → g x = some z → (∀ l o, H l = none → c.ct W o z → Q (.ref l) (upd H l o)) → r vs H Q
theorem CallB.use {f : Value} {t : TC X.K α} {c : Cod X.K β} {g : α → Option β} {J : β → En X.K → Option ρ → Prop} {rr : List V → Hp → VK → Prop} (hf : ∀ W H vs x z (Q : VK), Same W H → t.rp W vs x → g x = some z → (∀ w W' H', Grow W H W' H' → c.rp W' w z → Q w H') → rr vs H Q)
    (h : EA X C Γ es t r fun x Γ1 r1 => ∃ k, r1 = g x >>= k ∧ ∀ z, J z Γ1 (k z)) {z : ρ} {σ : L2.St} {W H : Hp} {Q : VK} (s : Sat C Γ σ W H) (hr : r = some z)
    (k : ∀ x Γ' r' W' H' v, J x Γ' r' → r' = some z → Sat C Γ' σ W' H' → Same W W' → c.rp W' v x → Q v H') : tCB rr (wpa X es) σ H Q :=
  h z σ W H _ s hr fun x Γ1 r1 W1 H1 vs j1 hr1 s1 w1 q1 => by
    obtain ⟨k2, e2, j2⟩ := j1
    rw [e2] at hr1
    obtain ⟨t, et, ht⟩ := bind_some hr1
    exact hf W1 H1 vs x t _ s1.sub q1 et fun w W2 H2 G q2 => k t Γ1 _ W2 H2 w (j2 t) ht (s1.grow G) (w1.trans G.w) q2
theorem CallN.use {f : Value} {t : TC X.K α} {c : Cel X.K β} {g : α → Option β} {J : β → En X.K → Option ρ → Prop} {rr : List V → Hp → VK → Prop} (hf : ∀ W H vs x z (Q : VK), Same W H → t.rp W vs x → g x = some z → (∀ l o, H l = none → c.ct W o z → Q (.ref l) (upd H l o)) → rr vs H Q)
    (h : EA X C Γ es t r fun x Γ1 r1 => ∃ k, r1 = g x >>= k ∧ ∀ z, J z Γ1 (k z)) {z : ρ} {σ : L2.St} {W H : Hp} {Q : VK} (s : Sat C Γ σ W H) (hr : r = some z)
    (k : ∀ x Γ' r' W' H' p o, J x Γ' r' → r' = some z → Sat C Γ' σ W' H' → Same W W' → W' p = none → C.H p = none → H' p = some o → c.ct W' o x → Apart Γ' σ p → C.a ≠ some p → Q (.ref p) H') : tCB rr (wpa X es) σ H Q :=
  h z σ W H _ s hr fun x Γ1 r1 W1 H1 vs j1 hr1 s1 w1 q1 => by
    obtain ⟨k2, e2, j2⟩ := j1
    rw [e2] at hr1
    obtain ⟨t, et, ht⟩ := bind_some hr1
    refine hf W1 H1 vs x t _ s1.sub q1 et fun l o hl ct => ?_
    obtain ⟨s2, wl, cl, ap, la⟩ := s1.fresh (o := o) hl
    exact k t Γ1 _ W1 _ l o (j2 t) ht s2 w1 wl cl upd_same ct ap la
variable {x : Str} {id T : String}
theorem ex_callB {t : TC X.K α} {c : Cod X.K β} {g : α → Option β} {J : β → En X.K → Option ρ → Prop} (o : CallB X (.builtin id) t c g) (hm : X.mg x = none) (hv : bootBuiltins x = some (.builtin id))
    (h : EA X C Γ (e :: es) t r fun x Γ1 r1 => ∃ k, r1 = g x >>= k ∧ ∀ z, J z Γ1 (k z)) (hg : Gl X x := by rfl) (hn : x ≠ "__name__" := by decide) (hdb : (x == ("__debug__" : Str)) = false := by decide)
    (he : starEach (e :: es) X.env = (false, eval e X.env) :: starEach es X.env := by rfl) (hpl : (backTo pos (starEach es X.env)).any (·.1) = false := by rfl) : EX X C Γ (.Call (.Name x p) (e :: es) [] pos) c r J := .mk fun z σ W H Q s hr k => by
  obtain ⟨rr, hc, hf⟩ := o
  exact w_pe (pe_callB hc hg hm hv pa_w hn hdb he hpl) (CallB.use (f := .builtin id) hf h s hr k)
theorem ex_callT {t : TC X.K α} {c : Cod X.K β} {g : α → Option β} {J : β → En X.K → Option ρ → Prop} (o : CallB X (.type T) t c g) (hm : X.mg x = none) (hv : bootBuiltins x = some (.type T))
    (h : EA X C Γ (e :: es) t r fun x Γ1 r1 => ∃ k, r1 = g x >>= k ∧ ∀ z, J z Γ1 (k z)) (hg : Gl X x := by rfl) (hn : x ≠ "__name__" := by decide) (hdb : (x == ("__debug__" : Str)) = false := by decide)
    (he : starEach (e :: es) X.env = (false, eval e X.env) :: starEach es X.env := by rfl) (hpl : (backTo pos (starEach es X.env)).any (·.1) = false := by rfl) : EX X C Γ (.Call (.Name x p) (e :: es) [] pos) c r J := .mk fun z σ W H Q s hr k => by
  obtain ⟨rr, hc, hf⟩ := o
  exact w_pe (pe_callTy hc hg hm hv pa_w hn hdb he hpl) (CallB.use (f := .type T) hf h s hr k)
theorem ex_callF {t : TC X.K α} {c : Cod X.K β} {g : α → Option β} {J : β → En X.K → Option ρ → Prop} (o : CallB X (.builtin id) t c g) (hm : X.mg x = some (.builtin id))
    (h : EA X C Γ (e :: es) t r fun x Γ1 r1 => ∃ k, r1 = g x >>= k ∧ ∀ z, J z Γ1 (k z)) (hg : Gl X x := by rfl) (hdb : (x == ("__debug__" : Str)) = false := by decide)
    (he : starEach (e :: es) X.env = (false, eval e X.env) :: starEach es X.env := by rfl) (hpl : (backTo pos (starEach es X.env)).any (·.1) = false := by rfl) : EX X C Γ (.Call (.Name x p) (e :: es) [] pos) c r J := .mk fun z σ W H Q s hr k => by
  obtain ⟨rr, hc, hf⟩ := o
  exact w_pe (pe_callBfun hc hg hm pa_w hdb he hpl) (CallB.use (f := .builtin id) hf h s hr k)
theorem ef_callB {t : TC X.K α} {c : Cel X.K β} {g : α → Option β} {J : β → En X.K → Option ρ → Prop} (o : CallN X (.builtin id) t c g) (hm : X.mg x = none) (hv : bootBuiltins x = some (.builtin id))
    (h : EA X C Γ (e :: es) t r fun x Γ1 r1 => ∃ k, r1 = g x >>= k ∧ ∀ z, J z Γ1 (k z)) (hg : Gl X x := by rfl) (hn : x ≠ "__name__" := by decide) (hdb : (x == ("__debug__" : Str)) = false := by decide)
    (he : starEach (e :: es) X.env = (false, eval e X.env) :: starEach es X.env := by rfl) (hpl : (backTo pos (starEach es X.env)).any (·.1) = false := by rfl) : EF X C Γ (.Call (.Name x p) (e :: es) [] pos) c r J := .mk fun z σ W H Q s hr k => by
  obtain ⟨rr, hc, hf⟩ := o
  exact w_pe (pe_callB hc hg hm hv pa_w hn hdb he hpl) (CallN.use (f := .builtin id) hf h s hr k)
theorem ef_callT {t : TC X.K α} {c : Cel X.K β} {g : α → Option β} {J : β → En X.K → Option ρ → Prop} (o : CallN X (.type T) t c g) (hm : X.mg x = none) (hv : bootBuiltins x = some (.type T))
    (h : EA X C Γ (e :: es) t r fun x Γ1 r1 => ∃ k, r1 = g x >>= k ∧ ∀ z, J z Γ1 (k z)) (hg : Gl X x := by rfl) (hn : x ≠ "__name__" := by decide) (hdb : (x == ("__debug__" : Str)) = false := by decide)
    (he : starEach (e :: es) X.env = (false, eval e X.env) :: starEach es X.env := by rfl) (hpl : (backTo pos (starEach es X.env)).any (·.1) = false := by rfl) : EF X C Γ (.Call (.Name x p) (e :: es) [] pos) c r J := .mk fun z σ W H Q s hr k => by
  obtain ⟨rr, hc, hf⟩ := o
  exact w_pe (pe_callTy hc hg hm hv pa_w hn hdb he hpl) (CallN.use (f := .type T) hf h s hr k)

def absI (i : Int) : Int := if i < 0 then -i else i
def maxI (i j : Int) : Int := if j > i then j else i
def minI (i j : Int) : Int := if j < i then j else i
theorem b_abs : CallB X (.builtin "abs") (tc1 cInt) cInt fun x => some (absI x) := ⟨_, call_abs, fun W H vs x z Q sb h e k => by
  obtain ⟨v, rfl, h⟩ := h; cases h; cases e; exact ⟨x, rfl, k _ W H (Grow.refl sb) rfl⟩⟩
theorem b_int : CallB X (.type "int") (tc1 cInt) cInt fun x => some x := ⟨_, call_int1, fun W H vs x z Q sb h e k => by
  obtain ⟨v, rfl, h⟩ := h; cases h; cases e; exact .inl ⟨x, rfl, k _ W H (Grow.refl sb) rfl⟩⟩
theorem b_max (hc : X.calm = true) : CallB X (.builtin "max") (tcC cInt (tc1 cInt)) cInt fun x => some (maxI x.1 x.2) := ⟨_, call_max2 hc, fun W H vs x z Q sb h e k => by
  obtain ⟨v, r, rfl, h, v2, rfl, h2⟩ := h; cases h; cases h2; cases e; exact ⟨x.1, x.2, rfl, k _ W H (Grow.refl sb) rfl⟩⟩
theorem b_min (hc : X.calm = true) : CallB X (.builtin "min") (tcC cInt (tc1 cInt)) cInt fun x => some (minI x.1 x.2) := ⟨_, call_min2 hc, fun W H vs x z Q sb h e k => by
  obtain ⟨v, r, rfl, h, v2, rfl, h2⟩ := h; cases h; cases h2; cases e; exact ⟨x.1, x.2, rfl, k _ W H (Grow.refl sb) rfl⟩⟩
theorem b_lenS {c : Cod X.K α} : CallB X (.builtin "len") (tc1 (cSeq c)) cInt fun x => some (x.length : Int) := ⟨_, call_len_seq, fun W H vs x z Q sb h e k => by
  obtain ⟨v, rfl, ad, ws, rfl, h2, h3⟩ := h; cases e; rw [← h3.length] at k; exact ⟨ad, ws, rfl, .inr (Same.tup sb h2), k _ W H (Grow.refl sb) rfl⟩⟩
theorem b_lenL {c : Cod X.K α} : CallB X (.builtin "len") (tc1 (cLst c)) cInt fun x => some (x.length : Int) := ⟨_, call_len_seq, fun W H vs x z Q sb h e k => by
  obtain ⟨v, rfl, ad, ws, rfl, h2, h3⟩ := h; cases e; rw [← h3.length] at k; exact ⟨ad, ws, rfl, .inl (SqL.of (sb _ _ h2)), k _ W H (Grow.refl sb) rfl⟩⟩
def U.len : U → Option Int
  | .tup l => some l.length
  | .lst l => some l.length
  | _ => none
theorem b_lenU : CallB X (.builtin "len") (tc1 cU) cInt U.len := ⟨_, call_len_seq, fun W H vs x z Q sb h e k => by
  obtain ⟨v, rfl, h⟩ := h
  cases x with
  | tup l => obtain ⟨ad, ws, rfl, h2, h3⟩ := h; cases e; rw [← h3.length] at k; exact ⟨ad, ws, rfl, .inr (Same.tup sb h2), k _ W H (Grow.refl sb) rfl⟩
  | lst l => obtain ⟨ad, ws, rfl, h2, h3⟩ := h; cases e; rw [← h3.length] at k; exact ⟨ad, ws, rfl, .inl (SqL.of (sb _ _ h2)), k _ W H (Grow.refl sb) rfl⟩
  | _ => cases e⟩
theorem Row.bls {K : Frag} {H : Hp} : ∀ {vs : List V} {xs : List Bool}, Row (cBool (K := K)) H vs xs → vs = xs.map V.bl
  | _, _, .nil => rfl
  | _, _, .cons h t => by cases h; rw [Row.bls t]; rfl
theorem Row.ints {K : Frag} {H : Hp} : ∀ {vs : List V} {xs : List Int}, Row (cInt (K := K)) H vs xs → vs = xs.map V.int
  | _, _, .nil => rfl
  | _, _, .cons h t => by cases h; rw [Row.ints t]; rfl
theorem Row.strs {K : Frag} {H : Hp} : ∀ {vs : List V} {xs : List Str}, Row (cStr (K := K)) H vs xs → vs = xs.map V.str
  | _, _, .nil => rfl
  | _, _, .cons h t => by cases h; rw [Row.strs t]; rfl
theorem Row.of_ints {K : Frag} {H : Hp} : ∀ (xs : List Int), Row (cInt (K := K)) H (xs.map V.int) xs
  | [] => .nil
  | x :: xs => .cons rfl (Row.of_ints xs)
theorem b_all (hc : X.calm = true) : CallB X (.builtin "all") (tc1 (cLst cBool)) cBool fun x => some (x.all fun b => b) := ⟨_, cr_all hc, fun W H vs x z Q sb h e k => by
  obtain ⟨v, rfl, ad, ws, rfl, h2, h3⟩ := h; cases e; rw [h3.bls] at h2; exact ⟨ad, x, rfl, SqL.of (sb _ _ h2), k _ W H (Grow.refl sb) rfl⟩⟩
theorem b_any (hc : X.calm = true) : CallB X (.builtin "any") (tc1 (cLst cBool)) cBool fun x => some (x.any fun b => b) := ⟨_, cr_any hc, fun W H vs x z Q sb h e k => by
  obtain ⟨v, rfl, ad, ws, rfl, h2, h3⟩ := h; cases e; rw [h3.bls] at h2; exact ⟨ad, x, rfl, SqL.of (sb _ _ h2), k _ W H (Grow.refl sb) rfl⟩⟩
theorem b_sum (hc : X.calm = true) : CallB X (.builtin "sum") (tc1 (cLst cInt)) cInt fun x => some x.sum := ⟨_, cr_sum hc, fun W H vs x z Q sb h e k => by
  obtain ⟨v, rfl, ad, ws, rfl, h2, h3⟩ := h; cases e; rw [h3.ints] at h2; exact ⟨ad, x, rfl, SqL.of (sb _ _ h2), k _ W H (Grow.refl sb) rfl⟩⟩
theorem b_tupL {c : Cod X.K α} : CallB X (.type "tuple") (tc1 (cLst c)) (cSeq c) fun x => some x := ⟨_, call_tuple_of, fun W H vs x z Q sb h e k => by
  obtain ⟨v, rfl, ad, ws, rfl, h2, h3⟩ := h; cases e
  exact ⟨ad, ws, rfl, .inl ⟨SqL.of (sb _ _ h2), fun l hl => k _ _ _ (Grow.new sb hl) ⟨l, ws, rfl, SqT.of upd_same, h3.mono (Grow.new sb hl).w⟩⟩⟩⟩
theorem b_tupS {c : Cod X.K α} : CallB X (.type "tuple") (tc1 (cSeq c)) (cSeq c) fun x => some x := ⟨_, call_tuple_of, fun W H vs x z Q sb h e k => by
  obtain ⟨v, rfl, ad, ws, rfl, h2, h3⟩ := h; cases e
  exact ⟨ad, ws, rfl, .inr ⟨Same.tup sb h2, k _ W H (Grow.refl sb) ⟨ad, ws, rfl, h2, h3⟩⟩⟩⟩
theorem n_listL {c : Cod X.K α} : CallN X (.type "list") (tc1 (cLst c)) (lstC c) fun x => some x := ⟨_, call_list_of, fun W H vs x z Q sb h e k => by
  obtain ⟨v, rfl, ad, ws, rfl, h2, h3⟩ := h; cases e
  exact ⟨ad, ws, rfl, .inl (SqL.of (sb _ _ h2)), fun l hl => k l _ hl ⟨ws, rfl, h3⟩⟩⟩
theorem n_listS {c : Cod X.K α} : CallN X (.type "list") (tc1 (cSeq c)) (lstC c) fun x => some x := ⟨_, call_list_of, fun W H vs x z Q sb h e k => by
  obtain ⟨v, rfl, ad, ws, rfl, h2, h3⟩ := h; cases e
  exact ⟨ad, ws, rfl, .inr (Same.tup sb h2), fun l hl => k l _ hl ⟨ws, rfl, h3⟩⟩⟩
/-- the script: ints, read only -/
def cScr {K : Frag} : Cod K (List Int) := ⟨fun H v x => ∃ a, v = .ref a ∧ SqL K H a (x.map V.int), fun _ => .opq, fun e ⟨a, h, q⟩ => ⟨a, h, Same.seq e q⟩, fun _ => trivial⟩
theorem n_listZ : CallN X (.type "list") (tc1 cScr) (lstC cInt) fun x => some x := ⟨_, call_list_of, fun W H vs x z Q sb h e k => by
  obtain ⟨v, rfl, ad, rfl, h2⟩ := h; cases e
  exact ⟨ad, _, rfl, .inl (Same.seq sb h2), fun l hl => k l _ hl ⟨_, rfl, Row.of_ints x⟩⟩⟩
def gcdI (a b : Int) : Int := ((Nat.gcd a.natAbs b.natAbs : Nat) : Int)
theorem b_gcd : CallB X (.builtin "math.gcd") (tcC cInt (tc1 cInt)) cInt fun x => some (gcdI x.1 x.2) := ⟨_, cr_gcd, fun W H vs x z Q sb h e k => by
  obtain ⟨v, r, rfl, h, v2, rfl, h2⟩ := h; cases h; cases h2; cases e; exact ⟨x.1, x.2, rfl, k _ W H (Grow.refl sb) rfl⟩⟩
def CLcm (a b : Int) : Prop := a.natAbs.log2 < 13000 ∧ b.natAbs.log2 < 13000
instance (a b : Int) : Decidable (CLcm a b) := inferInstanceAs (Decidable (_ ∧ _))
def lcmR (a b : Int) : Option Int := if CLcm a b then some ((Nat.lcm a.natAbs b.natAbs : Nat) : Int) else none
theorem log2_mul_lt {a b : Nat} {n : Nat} (ha : a.log2 < n) (hb : b.log2 < n) : (a * b).log2 < n + n := by
  rcases Nat.eq_zero_or_pos (a * b) with h | h
  · rw [h, Nat.log2_zero]; omega
  · have h1 : a ≠ 0 := fun e => by subst e; simp at h
    have h2 : b ≠ 0 := fun e => by subst e; simp at h
    refine (Nat.log2_lt (by omega)).mpr ?_
    rw [Nat.pow_add]
    exact Nat.mul_lt_mul'' ((Nat.log2_lt h1).mp ha) ((Nat.log2_lt h2).mp hb)
theorem log2_mono {a b : Nat} (h : a ≤ b) : a.log2 ≤ b.log2 := by
  rcases Nat.eq_zero_or_pos a with e | e
  · subst e; rw [Nat.log2_zero]; exact Nat.zero_le _
  · have hb : b ≠ 0 := by omega
    have h1 := (Nat.log2_lt (n := b) (k := b.log2 + 1) hb).mp (Nat.lt_succ_self _)
    exact Nat.le_of_lt_succ ((Nat.log2_lt (by omega)).mpr (Nat.lt_of_le_of_lt h h1))
theorem cr_lcm : CallR X (.builtin "math.lcm") (fun vs H Q => ∃ a b : Int, vs = [.int a, .int b] ∧ CLcm a b ∧ Q (.int ((Nat.lcm a.natAbs b.natAbs : Nat) : Int)) H) := by
  intro pins s σ H vs us Q I r h
  obtain ⟨a, b, rfl, ⟨l1, l2⟩, q⟩ := h
  obtain ⟨t, u, rfl⟩ := Vals.int2 r
  have m1 : (max 1 a.natAbs).log2 < 13000 := by
    rcases Nat.le_total 1 a.natAbs with h | h
    · rw [Nat.max_eq_right h]; exact l1
    · rw [Nat.max_eq_left h]; decide
  have m2 : (max a.natAbs b.natAbs).log2 < 13000 := by
    rcases Nat.le_total a.natAbs b.natAbs with h | h
    · rw [Nat.max_eq_right h]; exact l2
    · rw [Nat.max_eq_left h]; exact l1
  have e1 : (Nat.lcm 1 a.natAbs).lcm b.natAbs = Nat.lcm a.natAbs b.natAbs := by rw [PySem.W.mc_lcm_one]
  have l4 : (((((Nat.lcm 1 a.natAbs).lcm b.natAbs : Nat) : Int)).natAbs).log2 < bitsLine := by
    rw [e1, Int.natAbs_natCast]
    exact Nat.lt_of_le_of_lt (log2_mono (PySem.W.mc_lcm_le _ _)) (Nat.lt_trans (log2_mul_lt l1 l2) (by decide))
  refine call_function_meets PySem.W.MGF.kind_lcm PySem.W.MGF.plain_lcm PySem.W.MGF.entry_lcm (PySem.W.MGF.args_lcm _ _) (PySem.W.mg_run_lcm a t b u (by omega) (by omega) l4).meets ?_
  rw [e1]
  exact ⟨.int _, H, I.tok _, ⟨_, rfl⟩, q⟩
theorem b_lcm : CallB X (.builtin "math.lcm") (tcC cInt (tc1 cInt)) cInt fun x => lcmR x.1 x.2 := ⟨_, cr_lcm, fun W H vs x z Q sb h e k => by
  obtain ⟨v, r, rfl, h, v2, rfl, h2⟩ := h; cases h; cases h2
  have e : lcmR x.1 x.2 = some z := e
  unfold lcmR at e
  split at e
  · rename_i hc
    cases e; exact ⟨x.1, x.2, rfl, hc, k _ W H (Grow.refl sb) rfl⟩
  · cases e⟩
/-- len of what a name owns -/
theorem ex_lenO {c : Cod X.K α} {y : List α} {J : Int → En X.K → Option ρ → Prop} {n : Str} (i : Nat) (hm : X.mg "len" = none) (hJ : J (y.length : Int) Γ r) (hN : X.N[i]? = some n := by rfl) (hΓ : Γ[i]? = some (.ow (lstC c) y) := by rfl)
    (hv : Vis X.env.scope n := by first | exact Or.inl rfl | exact Or.inr (Or.inl rfl) | exact Or.inr (Or.inr rfl)) (hd : (n == ("__debug__" : Str)) = false := by decide) (hcd : (n == ("__classdict__" : Str)) = false := by decide) (hg : Gl X "len" := by rfl)
    (he : starEach [.Name n p2] X.env = (false, eval (.Name n p2) X.env) :: starEach [] X.env := by rfl) : EX X C Γ (.Call (.Name "len" p) [.Name n p2] [] pos) cInt r J := .mk fun z σ W H Q s hr k =>
  w_pe (pe_callB call_len_seq hg hm PySem.boot_len (pa_cons (pe_var hN hv hd hcd) pa_nil) (by decide) (by decide) he rfl) (by
    obtain ⟨ad, o, e1, e4, vs, rfl, rw1⟩ := s.seen hΓ
    refine ⟨_, e1, ad, vs, rfl, .inl (SqL.of e4), ?_⟩
    rw [rw1.length]
    exact k _ Γ r W H _ hJ hr s (Same.refl _) rfl)

/-! isinstance -/
def isU : String → U → Option Bool
  | _, .opq => none
  | "tuple", .tup _ => some true
  | "list", .lst _ => some true
  | "str", .str _ => some true
  | "int", .int _ => some true
  | "int", .bl _ => some true
  | "bool", .bl _ => some true
  | _, _ => some false
def tyU : U → String
  | .non => "NoneType" | .bl _ => "bool" | .int _ => "int" | .str _ => "str" | .tup _ => "tuple" | .lst _ => "list" | .opq => ""
theorem tyx_of {K : Frag} {W H : Hp} (sb : Same W H) {u : U} {v : V} (hn : u ≠ .opq) (h : rpU K W u v) : TyX K H v (.type (tyU u)) := by
  cases u with
  | non => cases h; exact .base .non
  | bl b => cases h; exact .base (.bl b)
  | int i => cases h; exact .base (.int i)
  | str s => cases h; exact .base (.str s)
  | tup l =>
    obtain ⟨a, vs, rfl, h2, _⟩ := h
    rcases Same.tup sb h2 with (h | ⟨o, h⟩) | ⟨o, its, n, hk, hc, _⟩
    · exact .base (.tup h)
    · exact .fTuple h
    · exact .kTuple hk hc
  | lst l =>
    obtain ⟨a, vs, rfl, h2, _⟩ := h
    exact .base (.lst (sb _ _ h2))
  | opq => exact absurd rfl hn
theorem isU_kit {T : String} (hT : T = "tuple" ∨ T = "list" ∨ T = "str" ∨ T = "int" ∨ T = "bool") (u : U) (hn : u ≠ .opq) : kitB (tyU u) T = isU T u := by
  rcases hT with rfl | rfl | rfl | rfl | rfl <;> cases u <;> first | exact absurd rfl hn | rfl | decide +kernel
theorem ex_isi {J : Bool → En X.K → Option ρ → Prop} (hm : X.mg "isinstance" = none) (hm2 : X.mg (T : Str) = none) (hv2 : bootBuiltins (T : Str) = some (.type T)) (h : EX X C Γ a cU r fun x Γ1 r1 => ∃ k, r1 = isU T x >>= k ∧ ∀ z, J z Γ1 (k z))
    (hT : T = "tuple" ∨ T = "list" ∨ T = "str" ∨ T = "int" ∨ T = "bool" := by decide) (hg : Gl X "isinstance" := by rfl) (hg2 : Gl X (T : Str) := by rfl) (hn2 : (T : Str) ≠ "__name__" := by decide) (hd2 : ((T : Str) == ("__debug__" : Str)) = false := by decide)
    (he : starEach [a, .Name (T : Str) p2] X.env = (false, eval a X.env) :: starEach [.Name (T : Str) p2] X.env := by rfl) (he2 : starEach [.Name (T : Str) p2] X.env = (false, eval (.Name (T : Str) p2) X.env) :: starEach [] X.env := by rfl)
    (hpl : (backTo pos (starEach [.Name (T : Str) p2] X.env)).any (·.1) = false := by rfl) : EX X C Γ (.Call (.Name "isinstance" p) [a, .Name (T : Str) p2] [] pos) cBool r J := .mk fun z σ W H Q s hr k =>
  w_pe (pe_callB call_isi hg hm boot_isinstance (pa_cons pe_w (pa_cons (pe_bltn (v := .ty T) hg2 hm2 hv2 rfl hn2 hd2) pa_nil he2) he) (by decide) (by decide) he hpl)
    (h z σ W H _ s hr fun x Γ1 r1 W1 H1 v j1 hr1 s1 w1 q1 => by
      obtain ⟨k2, e2, j2⟩ := j1
      rw [e2] at hr1
      obtain ⟨t, et, ht⟩ := bind_some hr1
      have hn : x ≠ .opq := fun z => by
        subst z
        rcases hT with rfl | rfl | rfl | rfl | rfl <;> cases et
      exact ⟨v, .ty T, _, _, t, rfl, .ty T, tyx_of s1.sub hn q1, kit_ty ((isU_kit hT x hn).trans et), k _ Γ1 _ W1 H1 _ (j2 t) ht s1 w1 rfl⟩)

/-! defs -/
def spP (K : Frag) (t : TC K α) (f : α → Option β) (c : Cod K β) : Sp := fun vs H Q _ => ∃ W x, Same W H ∧ t.rp W vs x ∧ ∃ z, f x = some z ∧ ∀ W' H' v, Grow W H W' H' → c.rp W' v z → Q v H'
/-- a def that hands back a new object -/
def spN (K : Frag) (t : TC K α) (f : α → Option β) (c : Cel K β) : Sp := fun vs H Q _ => ∃ W x, Same W H ∧ t.rp W vs x ∧ ∃ z, f x = some z ∧ ∀ W' H' p o, Grow W H W' H' → W' p = none → H p = none → H' p = some o → c.ct W' o z → Q (.ref p) H'
/-- what stands at a name of the module -/
structure FnP (P : Program) (w : World) (K : Frag) (mg : Str → Option Value) (base : Heap) (x : Str) (k : Nat) (ps : List Str) (sp : Sp) : Prop where
  ex : ∃ f fd, mg x = some (.ref f) ∧ PySem.W.keepIn K (.ref f) = true ∧ Binds K fd ps [] ∧ FnOk P w K mg base CX0 k f fd ps sp
theorem FnP.mono {P : Program} {w : World} {K : Frag} {mg : Str → Option Value} {base : Heap} {x : Str} {k k' : Nat} {ps : List Str} {sp : Sp} (F : FnP P w K mg base x k ps sp) (h : k ≤ k') : FnP P w K mg base x k' ps sp := by
  obtain ⟨f, fd, a, b, c, d⟩ := F.ex
  exact ⟨f, fd, a, b, c, d.mono h⟩
theorem ex_call {t : TC X.K α} {c : Cod X.K β} {f : α → Option β} {J : β → En X.K → Option ρ → Prop} {k : Nat} {ps : List Str} (F : FnP X.prog X.w X.K X.mg X.base x k ps (spP X.K t f c)) (hr : Room k X.A)
    (h : EA X C Γ (e :: es) t r fun x Γ1 r1 => ∃ k, r1 = f x >>= k ∧ ∀ z, J z Γ1 (k z)) (hg : Gl X x := by rfl) (hdb : (x == ("__debug__" : Str)) = false := by decide)
    (he : starEach (e :: es) X.env = (false, eval e X.env) :: starEach es X.env := by rfl) (hpl : (backTo pos (starEach es X.env)).any (·.1) = false := by rfl) : EX X C Γ (.Call (.Name x p) (e :: es) [] pos) c r J := .mk fun z σ W H Q s hrr kk => by
  obtain ⟨fa, fd, h1, h2, h3, h4⟩ := F.ex
  refine w_pe (pe_call h4 hr hg h1 h2 h3 .nil pass0 pa_w hdb he hpl) (h z σ W H _ s hrr fun y Γ1 r1 W1 H1 vs j1 hr1 s1 w1 q1 => ?_)
  obtain ⟨k2, e2, j2⟩ := j1
  rw [e2] at hr1
  obtain ⟨t2, et, ht⟩ := bind_some hr1
  rw [List.append_nil]
  exact ⟨W1, y, s1.sub, q1, t2, et, fun W2 H2 v G q2 => kk t2 Γ1 _ W2 H2 v (j2 t2) ht (s1.grow G) (w1.trans G.w) q2⟩
theorem ef_call {t : TC X.K α} {c : Cel X.K β} {f : α → Option β} {J : β → En X.K → Option ρ → Prop} {k : Nat} {ps : List Str} (F : FnP X.prog X.w X.K X.mg X.base x k ps (spN X.K t f c)) (hr : Room k X.A)
    (h : EA X C Γ (e :: es) t r fun x Γ1 r1 => ∃ k, r1 = f x >>= k ∧ ∀ z, J z Γ1 (k z)) (hg : Gl X x := by rfl) (hdb : (x == ("__debug__" : Str)) = false := by decide)
    (he : starEach (e :: es) X.env = (false, eval e X.env) :: starEach es X.env := by rfl) (hpl : (backTo pos (starEach es X.env)).any (·.1) = false := by rfl) : EF X C Γ (.Call (.Name x p) (e :: es) [] pos) c r J := .mk fun z σ W H Q s hrr kk => by
  obtain ⟨fa, fd, h1, h2, h3, h4⟩ := F.ex
  refine w_pe (pe_call h4 hr hg h1 h2 h3 .nil pass0 pa_w hdb he hpl) (h z σ W H _ s hrr fun y Γ1 r1 W1 H1 vs j1 hr1 s1 w1 q1 => ?_)
  obtain ⟨k2, e2, j2⟩ := j1
  rw [e2] at hr1
  obtain ⟨t2, et, ht⟩ := bind_some hr1
  rw [List.append_nil]
  refine ⟨W1, y, s1.sub, q1, t2, et, fun W2 H2 p o G wp hp h2p ct => ?_⟩
  have cp : C.H p = none := by
    cases q : C.H p with
    | none => rfl
    | some u => exact absurd hp (s1.li p (by rw [q]; simp))
  exact kk t2 Γ1 _ W2 H2 p o (j2 t2) ht (s1.grow G) (w1.trans G.w) wp cp h2p ct (s1.apart hp) fun z => s1.lb p (.inr z) hp
end
end Ty

set_option maxHeartbeats 4000000
namespace Ty
open PySem PySem.Spec PyProof.Rows L2

/-! ### blocks -/
/-- where a block may go: on, back (a value), out of a loop, to its next turn -/
structure Go (K : Frag) (ρ β : Type) where
  R : Hp → Hp → V → ρ → Prop
  ret : ρ → β
  nx : En K → Option β → Prop
  bk : En K → Option β → Prop := fun _ _ => False
  ct : En K → Option β → Prop := fun _ _ => False
section
variable (X : Cx) (C : Ct) {ρ β : Type}
/-- the piece w (a statement, a block) from Γ with the rest r to go -/
structure GK (w : TS) (Γ : En X.K) (r : Option β) (T : Go X.K ρ β) : Prop where
  run : ∀ (z : β) σ W H (D : Ends), Sat C Γ σ W H → r = some z →
    (∀ Γ' r' σ' W' H', T.nx Γ' r' → r' = some z → Sat C Γ' σ' W' H' → Same W W' → D.nx σ' H') →
    (∀ Γ' r' σ' W' H', T.bk Γ' r' → r' = some z → Sat C Γ' σ' W' H' → Same W W' → D.bk σ' H') →
    (∀ Γ' r' σ' W' H', T.ct Γ' r' → r' = some z → Sat C Γ' σ' W' H' → Same W W' → D.ct σ' H') →
    (∀ x v (Γ' : En X.K) σ' W' H', T.ret x = z → Sat C Γ' σ' W' H' → Same W W' → T.R W' H' v x → D.rt v H') → w D σ H
end
instance {X : Cx} {C : Ct} {ρ β : Type} {w : TS} {Γ : En X.K} {r : Option β} {T : Go X.K ρ β} : CoeFun (GK X C w Γ r T) (fun _ => ∀ (z : β) σ W H (D : Ends), Sat C Γ σ W H → r = some z →
    (∀ Γ' r' σ' W' H', T.nx Γ' r' → r' = some z → Sat C Γ' σ' W' H' → Same W W' → D.nx σ' H') →
    (∀ Γ' r' σ' W' H', T.bk Γ' r' → r' = some z → Sat C Γ' σ' W' H' → Same W W' → D.bk σ' H') →
    (∀ Γ' r' σ' W' H', T.ct Γ' r' → r' = some z → Sat C Γ' σ' W' H' → Same W W' → D.ct σ' H') →
    (∀ x v (Γ' : En X.K) σ' W' H', T.ret x = z → Sat C Γ' σ' W' H' → Same W W' → T.R W' H' v x → D.rt v H') → w D σ H) := ⟨GK.run⟩
section
variable {X : Cx} {C : Ct} {ρ α β γ : Type} {Γ : En X.K} {e a b : Expr} {es : List Expr} {st : Stmt} {sts rest : List Stmt} {r : Option β} {T : Go X.K ρ β} {pos p p2 p3 : Pos}
theorem gk_nil (h : T.nx Γ r) : GK X C (wpB X []) Γ r T := GK.mk fun z σ W H D s hr kn kb kc kr => w_pss pss_nil (kn Γ r σ W H h hr s (Same.refl _))
theorem gk_cons (h : GK X C (wpS X st) Γ r { T with nx := fun Γ1 r1 => GK X C (wpB X rest) Γ1 r1 T }) : GK X C (wpB X (st :: rest)) Γ r T := GK.mk fun z σ W H D s hr kn kb kc kr =>
  w_pss (pss_cons ps_w pss_w) (h z σ W H { D with nx := wpB X rest D } s hr (fun Γ1 r1 σ1 W1 H1 g hr1 s1 w1 => g z σ1 W1 H1 D s1 hr1
    (fun Γ' r' σ' W' H' a b c d => kn Γ' r' σ' W' H' a b c (w1.trans d)) (fun Γ' r' σ' W' H' a b c d => kb Γ' r' σ' W' H' a b c (w1.trans d)) (fun Γ' r' σ' W' H' a b c d => kc Γ' r' σ' W' H' a b c (w1.trans d))
    (fun x v Γ' σ' W' H' a b c d => kr x v Γ' σ' W' H' a b (w1.trans c) d)) kb kc kr)
theorem gk_one (h : GK X C (wpS X st) Γ r T) : GK X C (wpB X [st]) Γ r T := GK.mk fun z σ W H D s hr kn kb kc kr => w_pss (pss_one ps_w) (h z σ W H D s hr kn kb kc kr)
theorem gk_wk {w : TS} {Γ' : En X.K} (g : Wk C Γ Γ') (h : GK X C w Γ' r T) : GK X C w Γ r T := GK.mk fun z σ W H D s hr kn kb kc kr => by
  obtain ⟨W1, w1, s1⟩ := g σ W H s
  exact h z σ W1 H D s1 hr (fun Γ' r' σ' W' H' a b c d => kn Γ' r' σ' W' H' a b c (w1.trans d)) (fun Γ' r' σ' W' H' a b c d => kb Γ' r' σ' W' H' a b c (w1.trans d)) (fun Γ' r' σ' W' H' a b c d => kc Γ' r' σ' W' H' a b c (w1.trans d))
    (fun x v Γ' σ' W' H' a b c d => kr x v Γ' σ' W' H' a b (w1.trans c) d)
theorem gs_pass (h : T.nx Γ r) : GK X C (wpS X (.Pass pos)) Γ r T := GK.mk fun z σ W H D s hr kn kb kc kr => w_ps ps_pass (kn Γ r σ W H h hr s (Same.refl _))
theorem gs_break (h : T.bk Γ r) : GK X C (wpS X (.Break pos)) Γ r T := GK.mk fun z σ W H D s hr kn kb kc kr => w_ps ps_break (kb Γ r σ W H h hr s (Same.refl _))
theorem gs_continue (h : T.ct Γ r) : GK X C (wpS X (.Continue pos)) Γ r T := GK.mk fun z σ W H D s hr kn kb kc kr => w_ps ps_continue (kc Γ r σ W H h hr s (Same.refl _))
theorem gs_ret {c : Cod X.K ρ} (h : EX X C Γ e c r fun x _ r1 => r1 = some (T.ret x)) (hR : T.R = fun W _ v x => c.rp W v x := by rfl) : GK X C (wpS X (.Return (some e) pos)) Γ r T := GK.mk fun z σ W H D s hr kn kb kc kr =>
  w_ps (ps_ret pe_w) (h z σ W H _ s hr fun x Γ1 r1 W1 H1 v j1 hr1 s1 w1 q1 => kr x v Γ1 σ W1 H1 (by rw [j1] at hr1; exact Option.some.inj hr1) s1 w1 (by rw [hR]; exact q1))
/-- a new object that belongs to the caller -/
def NewR {K : Frag} (C : Ct) (c : Cel K ρ) : Hp → Hp → V → ρ → Prop := fun W H v x => ∃ p o, v = .ref p ∧ W p = none ∧ C.H p = none ∧ H p = some o ∧ c.ct W o x
theorem gs_retN {c : Cel X.K ρ} (h : EF X C Γ e c r fun x _ r1 => r1 = some (T.ret x)) (hR : T.R = NewR C c := by rfl) : GK X C (wpS X (.Return (some e) pos)) Γ r T := GK.mk fun z σ W H D s hr kn kb kc kr =>
  w_ps (ps_ret pe_w) (h z σ W H _ s hr fun x Γ1 r1 W1 H1 p o j1 hr1 s1 w1 wp cp hp ct ap la => kr x _ Γ1 σ W1 H1 (by rw [j1] at hr1; exact Option.some.inj hr1) s1 w1 (by rw [hR]; exact ⟨p, o, rfl, wp, cp, hp, ct⟩))
/-- return x, x a name that owns its object -/
theorem gs_retO {c : Cel X.K ρ} {x : ρ} {n : Str} (i : Nat) (hr0 : r = some (T.ret x)) (hR : T.R = NewR C c := by rfl) (hB : ∀ a, ¬ C.B a := by intro _ h; exact h) (hN : X.N[i]? = some n := by rfl) (hΓ : Γ[i]? = some (.ow c x) := by rfl)
    (hv : Vis X.env.scope n := by first | exact Or.inl rfl | exact Or.inr (Or.inl rfl) | exact Or.inr (Or.inr rfl)) (hd : (n == ("__debug__" : Str)) = false := by decide) (hcd : (n == ("__classdict__" : Str)) = false := by decide) :
    GK X C (wpS X (.Return (some (.Name n p)) pos)) Γ r T := GK.mk fun z σ W H D s hr kn kb kc kr =>
  w_ps (ps_ret (pe_var hN hv hd hcd)) (by
    obtain ⟨ad, o, e1, e2, e3, e4, e5⟩ := s.sl i _ hΓ
    exact ⟨_, getD_some e1, kr x _ Γ σ W H (by rw [hr0] at hr; exact Option.some.inj hr) s (Same.refl _) (by rw [hR]; exact ⟨ad, o, rfl, e2, e3.resolve_right (hB ad), e4, e5⟩)⟩)
/-- the scope's slot of a local name -/
theorem set_len {σ : L2.St} {n : Nat} {i : Nat} {x : Str} {N : List Str} (h : σ.length = N.length) (hi : N[i]? = some x) : i < σ.length := by
  rw [h]; exact (List.getElem?_eq_some_iff.mp hi).1
theorem gs_set {c : Cod X.K α} {n : Str} (i : Nat) (h : EX X C Γ e c r fun x Γ1 r1 => T.nx (Γ1.set i (.im c x)) r1) (hnd : X.N.Nodup) (hN : X.N[i]? = some n := by rfl)
    (hx : Loc X.env.scope n := by first | exact Or.inl rfl | exact Or.inr rfl) (hs : swapsWith e (some (.Name n p)) pos.line X.env = pure false := by rfl) (hf : X.fn n = true ∨ X.env.scope.names.lookup n = some .local := by first | exact .inl rfl | exact .inr rfl) :
    GK X C (wpS X (.Assign [.Name n p] e pos)) Γ r T := GK.mk fun z σ W H D s hr kn kb kc kr => fun pins sh I => by
  have hl : i < σ.length := set_len (n := 0) I.len hN
  exact (ps_set hnd hN hx pe_w hs hf).run pins sh σ H D I (h z σ W H _ s hr fun x Γ1 r1 W1 H1 v j1 hr1 s1 w1 q1 => kn _ r1 _ W1 H1 j1 hr1 (s1.put hl q1) w1)
/-- .. and the value is a letter from now on -/
def lt {δ : Type} (x : α) (k : α → δ) : δ := k x
theorem gs_let {c : Cod X.K α} {n : Str} (i : Nat) (h : EX X C Γ e c r fun x Γ1 r1 => ∃ k, r1 = lt x k ∧ ∀ y, T.nx (Γ1.set i (.im c y)) (k y)) (hnd : X.N.Nodup) (hN : X.N[i]? = some n := by rfl)
    (hx : Loc X.env.scope n := by first | exact Or.inl rfl | exact Or.inr rfl) (hs : swapsWith e (some (.Name n p)) pos.line X.env = pure false := by rfl) (hf : X.fn n = true ∨ X.env.scope.names.lookup n = some .local := by first | exact .inl rfl | exact .inr rfl) :
    GK X C (wpS X (.Assign [.Name n p] e pos)) Γ r T := GK.mk fun z σ W H D s hr kn kb kc kr => fun pins sh I => by
  have hl : i < σ.length := set_len (n := 0) I.len hN
  exact (ps_set hnd hN hx pe_w hs hf).run pins sh σ H D I (h z σ W H _ s hr fun x Γ1 r1 W1 H1 v j1 hr1 s1 w1 q1 => by
    obtain ⟨k, e1, j1⟩ := j1
    rw [e1] at hr1
    exact kn _ _ _ W1 H1 (j1 x) hr1 (s1.put hl q1) w1)
/-- a name is given a new object -/
theorem gs_setN {c : Cel X.K α} {n : Str} (i : Nat) (h : EF X C Γ e c r fun x Γ1 r1 => T.nx (Γ1.set i (.ow c x)) r1) (hnd : X.N.Nodup) (hN : X.N[i]? = some n := by rfl)
    (hx : Loc X.env.scope n := by first | exact Or.inl rfl | exact Or.inr rfl) (hs : swapsWith e (some (.Name n p)) pos.line X.env = pure false := by rfl) (hf : X.fn n = true ∨ X.env.scope.names.lookup n = some .local := by first | exact .inl rfl | exact .inr rfl) :
    GK X C (wpS X (.Assign [.Name n p] e pos)) Γ r T := GK.mk fun z σ W H D s hr kn kb kc kr => fun pins sh I => by
  have hl : i < σ.length := set_len (n := 0) I.len hN
  exact (ps_set hnd hN hx pe_w hs hf).run pins sh σ H D I (h z σ W H _ s hr fun x Γ1 r1 W1 H1 p o j1 hr1 s1 w1 wp cp hp ct ap la => kn _ r1 _ W1 H1 j1 hr1 (s1.take hl wp (.inl cp) hp ct ap la) w1)
theorem gs_expr {c : Cod X.K α} (h : EX X C Γ e c r fun _ Γ1 r1 => T.nx Γ1 r1) (hs : swapsWith e none pos.line X.env = pure false := by rfl) : GK X C (wpS X (.Expr e pos)) Γ r T := GK.mk fun z σ W H D s hr kn kb kc kr =>
  w_ps (ps_expr pe_w hs) (h z σ W H _ s hr fun x Γ1 r1 W1 H1 v j1 hr1 s1 w1 q1 => kn Γ1 r1 σ W1 H1 j1 hr1 s1 w1)
/-- if t: a block that does not go on -/
theorem gs_ifR (h : ET X C Γ e r fun x Γ1 r1 => ∃ ra rb, r1 = cond x ra rb ∧ GK X C (wpB X sts) Γ1 ra { T with nx := fun _ _ => False } ∧ T.nx Γ1 rb) : GK X C (wpS X (.If e sts [] pos)) Γ r T := GK.mk fun z σ W H D s hr kn kb kc kr =>
  w_ps (ps_if pt_w pss_w pss_nil) (h z σ W H _ s hr fun x Γ1 r1 W1 H1 j1 hr1 s1 w1 => by
    obtain ⟨ra, rb, e1, ga, gb⟩ := j1
    rw [e1] at hr1
    cases x with
    | true =>
      rw [if_pos rfl]
      exact ga z σ W1 H1 _ s1 hr1 (fun _ _ _ _ _ f => f.elim) (fun Γ' r' σ' W' H' a b c d => kb Γ' r' σ' W' H' a b c (w1.trans d)) (fun Γ' r' σ' W' H' a b c d => kc Γ' r' σ' W' H' a b c (w1.trans d)) (fun x v Γ' σ' W' H' a b c d => kr x v Γ' σ' W' H' a b (w1.trans c) d)
    | false =>
      rw [if_neg Bool.false_ne_true]
      exact kn Γ1 rb σ W1 H1 gb hr1 s1 w1)
/-- if t: .. else: .., both as they stand -/
theorem gs_if2 {sts2 : List Stmt} (h : ET X C Γ e r fun x Γ1 r1 => ∃ ra rb, r1 = cond x ra rb ∧ GK X C (wpB X sts) Γ1 ra T ∧ GK X C (wpB X sts2) Γ1 rb T) : GK X C (wpS X (.If e sts sts2 pos)) Γ r T := GK.mk fun z σ W H D s hr kn kb kc kr =>
  w_ps (ps_if pt_w pss_w pss_w) (h z σ W H _ s hr fun x Γ1 r1 W1 H1 j1 hr1 s1 w1 => by
    obtain ⟨ra, rb, e1, ga, gb⟩ := j1
    rw [e1] at hr1
    cases x with
    | true =>
      rw [if_pos rfl]
      exact ga z σ W1 H1 _ s1 hr1 (fun Γ' r' σ' W' H' a b c d => kn Γ' r' σ' W' H' a b c (w1.trans d)) (fun Γ' r' σ' W' H' a b c d => kb Γ' r' σ' W' H' a b c (w1.trans d)) (fun Γ' r' σ' W' H' a b c d => kc Γ' r' σ' W' H' a b c (w1.trans d)) (fun x v Γ' σ' W' H' a b c d => kr x v Γ' σ' W' H' a b (w1.trans c) d)
    | false =>
      rw [if_neg Bool.false_ne_true]
      exact gb z σ W1 H1 _ s1 hr1 (fun Γ' r' σ' W' H' a b c d => kn Γ' r' σ' W' H' a b c (w1.trans d)) (fun Γ' r' σ' W' H' a b c d => kb Γ' r' σ' W' H' a b c (w1.trans d)) (fun Γ' r' σ' W' H' a b c d => kc Γ' r' σ' W' H' a b c (w1.trans d)) (fun x v Γ' σ' W' H' a b c d => kr x v Γ' σ' W' H' a b (w1.trans c) d))
/-- how a part of a block ends: on with a state, back, out, again -/
inductive Fl (S ρ : Type) where
  | nx (s : S) | rt (x : ρ) | bk (s : S) | ct (s : S)
/-- a part's going, told by its end -/
def goF {K : Frag} {S : Type} (C : Ct) (R : Hp → Hp → V → ρ → Prop) (Γs : S → En K) : Go K ρ (Fl S ρ) where
  R := R
  ret := .rt
  nx := fun Γ' r' => ∃ s, r' = some (.nx s) ∧ Wk C Γ' (Γs s)
  bk := fun Γ' r' => ∃ s, r' = some (.bk s) ∧ Wk C Γ' (Γs s)
  ct := fun Γ' r' => ∃ s, r' = some (.ct s) ∧ Wk C Γ' (Γs s)
/-- .. that only goes on -/
def goS {K : Frag} {S : Type} (C : Ct) (Γs : S → En K) : Go K Empty S where
  R := fun _ _ _ _ => False
  ret := Empty.elim
  nx := fun Γ' r' => ∃ s, r' = some s ∧ Wk C Γ' (Γs s)
theorem goes {K : Frag} {S : Type} {C : Ct} {Γ' : En K} {Γs : S → En K} {s : S} (w : Wk C Γ' (Γs s)) : (goS C Γs).nx Γ' (some s) := ⟨s, rfl, w⟩
/-- a part of a block, joined by a state -/
theorem gk_join {S : Type} {w : TS} {m : Option S} {k : S → Option β} (Γs : S → En X.K) (hr0 : r = m >>= k) (hw : GK X C w Γ m (goS C Γs)) (h : ∀ s, T.nx (Γs s) (k s)) : GK X C w Γ r T := GK.mk fun z σ W H D s hr kn kb kc kr => by
  rw [hr0] at hr
  obtain ⟨t, e1, e2⟩ := bind_some hr
  refine hw t σ W H D s e1 (fun Γ1 r1 σ1 W1 H1 j hr1 s1 w1 => ?_) (fun _ _ _ _ _ f => f.elim) (fun _ _ _ _ _ f => f.elim) fun x => x.elim
  obtain ⟨t', e3, g⟩ := j
  rw [hr1] at e3; cases e3
  obtain ⟨W2, w2, s2⟩ := g σ1 W1 H1 s1
  exact kn _ _ σ1 W2 H1 (h t) e2 s2 (w1.trans w2)
/-- .. that may also go back, out, again -/
theorem gk_joinF {S : Type} {w : TS} {m : Option (Fl S ρ)} {k : Fl S ρ → Option β} (Γs : S → En X.K) (hr0 : r = m >>= k) (hw : GK X C w Γ m (goF C T.R Γs)) (h : ∀ s, T.nx (Γs s) (k (.nx s))) (hret : ∀ x, k (.rt x) = some (T.ret x))
    (hbk : ∀ s z, k (.bk s) = some z → T.bk (Γs s) (k (.bk s)) := by intro _ _ h; cases h) (hct : ∀ s z, k (.ct s) = some z → T.ct (Γs s) (k (.ct s)) := by intro _ _ h; cases h) : GK X C w Γ r T := GK.mk fun z σ W H D s hr kn kb kc kr => by
  rw [hr0] at hr
  obtain ⟨t, e1, e2⟩ := bind_some hr
  refine hw t σ W H D s e1 (fun Γ1 r1 σ1 W1 H1 j hr1 s1 w1 => ?_) (fun Γ1 r1 σ1 W1 H1 j hr1 s1 w1 => ?_) (fun Γ1 r1 σ1 W1 H1 j hr1 s1 w1 => ?_) fun x v Γ1 σ1 W1 H1 e s1 w1 q => ?_
  · obtain ⟨t', e3, g⟩ := j
    rw [hr1] at e3; cases e3
    obtain ⟨W2, w2, s2⟩ := g σ1 W1 H1 s1
    exact kn _ _ σ1 W2 H1 (h t') e2 s2 (w1.trans w2)
  · obtain ⟨t', e3, g⟩ := j
    rw [hr1] at e3; cases e3
    obtain ⟨W2, w2, s2⟩ := g σ1 W1 H1 s1
    exact kb _ _ σ1 W2 H1 (hbk t' z e2) e2 s2 (w1.trans w2)
  · obtain ⟨t', e3, g⟩ := j
    rw [hr1] at e3; cases e3
    obtain ⟨W2, w2, s2⟩ := g σ1 W1 H1 s1
    exact kc _ _ σ1 W2 H1 (hct t' z e2) e2 s2 (w1.trans w2)
  · have e : Fl.rt x = t := e
    subst e
    rw [hret x] at e2
    exact kr x v Γ1 σ1 W1 H1 (Option.some.inj e2) s1 w1 q

/-! targets -/
/-- σ' is σ but at the places ws -/
structure Agr (ws : List Nat) (σ σ' : L2.St) : Prop where
  len : σ'.length = σ.length
  eq : ∀ i, i ∉ ws → σ'[i]? = σ[i]?
theorem Agr.wipe {ws vs : List Nat} {σ σ' : L2.St} (h : Agr ws σ σ') (hs : ∀ i ∈ ws, i ∈ vs) : L2.wipe σ' vs = L2.wipe σ vs := by
  apply List.ext_getElem?
  intro i
  by_cases hi : i ∈ vs
  · have one : ∀ (τ : L2.St) (vs : List Nat), i ∈ vs → (L2.wipe τ vs)[i]? = if i < τ.length then some none else none := by
      intro τ vs
      induction vs with
      | nil => intro h; cases h
      | cons v vs ih =>
        intro hm
        show ((L2.wipe τ vs).set v none)[i]? = _
        by_cases hv : i = v
        · subst hv
          rw [List.getElem?_set]
          simp [wipe_length]
        · rw [List.getElem?_set_ne (Ne.symm hv)]
          exact ih ((List.mem_cons.mp hm).resolve_left hv)
    rw [one σ' vs hi, one σ vs hi, h.len]
  · rw [wipe_get hi, wipe_get hi]
    exact h.eq i fun z => hi (hs i z)
theorem drops_set {K : Frag} {e : Ent K} : ∀ {vs : List Nat} {Γ : En K} {i : Nat}, i ∈ vs → drops0 vs (Γ.set i e) = drops0 vs Γ
  | v :: vs, Γ, i, h => by
    show drops0 vs ((Γ.set i e).set v .no) = drops0 vs (Γ.set v .no)
    by_cases hi : i = v
    · subst hi; rw [List.set_set]
    · rw [List.set_comm _ _ hi]
      exact drops_set ((List.mem_cons.mp h).resolve_left hi)
theorem drops_idem {K : Frag} : ∀ (vs : List Nat) (us : List Nat) (Γ : En K), (∀ i ∈ us, i ∈ vs) → drops0 vs (drops0 us Γ) = drops0 vs Γ
  | _, [], _, _ => rfl
  | vs, u :: us, Γ, h => by
    show drops0 vs (drops0 us (Γ.set u .no)) = _
    rw [drops_idem vs us _ fun i hi => h i (List.mem_cons_of_mem _ hi)]
    exact drops_set (h u (List.mem_cons_self ..))
structure AG (X : Cx) (C : Ct) (tg : Expr) (c : Cod X.K α) (ws : List Nat) (up : En X.K → α → En X.K) : Prop where
  run : ∀ Γ σ W H v x (Q : L2.St → Hp → Prop), Sat C Γ σ W H → c.rp W v x → (∀ σ', Sat C (up Γ x) σ' W H → Agr ws σ σ' → Q σ' H) → wpg X tg v σ H Q
  dr : ∀ Γ x vs, (∀ i ∈ ws, i ∈ vs) → drops0 vs (up Γ x) = drops0 vs Γ
theorem ag_name {c : Cod X.K α} {n : Str} (i : Nat) (hnd : X.N.Nodup) (hN : X.N[i]? = some n := by rfl) (hx : Loc X.env.scope n := by first | exact Or.inl rfl | exact Or.inr rfl) (hf : X.fn n = true ∨ X.env.scope.names.lookup n = some .local := by first | exact .inl rfl | exact .inr rfl) :
    AG X C (.Name n p) c [i] fun Γ x => Γ.set i (.im c x) := ⟨fun Γ σ W H v x Q s q k pins sh u I rv => by
  have hl : i < σ.length := set_len (n := 0) I.len hN
  exact (pg_name hnd hN hx hf).run pins sh σ H v u Q I rv (k _ (s.put hl q) ⟨by simp, fun j hj => by
    simp only [List.mem_cons, List.not_mem_nil, or_false] at hj
    exact List.getElem?_set_ne (Ne.symm hj)⟩), fun Γ x vs h => drops_set (h i (List.mem_cons_self ..))⟩
structure AGs (X : Cx) (C : Ct) (tgs : List Expr) (t : TC X.K α) (ws : List Nat) (up : En X.K → α → En X.K) : Prop where
  run : ∀ Γ σ W H vs x (Q : L2.St → Hp → Prop), Sat C Γ σ W H → t.rp W vs x → (∀ σ', Sat C (up Γ x) σ' W H → Agr ws σ σ' → Q σ' H) →
    ∀ pins s us, Inv X pins σ H s → Vals vs us → wpAny (model X.prog X.w) X.A (assignInOrder ((assignEach tgs X.env).map (·.2)) us) (fun _ s' => ∃ σ' H', Inv X pins σ' H' s' ∧ Q σ' H') X.xe s
  dr : ∀ Γ x vs, (∀ i ∈ ws, i ∈ vs) → drops0 vs (up Γ x) = drops0 vs Γ
theorem ags_cons {tg : Expr} {tgs : List Expr} {c : Cod X.K α} {t : TC X.K β} {ws ws2 : List Nat} {up : En X.K → α → En X.K} {ups : En X.K → β → En X.K} (h : AG X C tg c ws up) (hr : AGs X C tgs t ws2 ups)
    (hs : (assignEach (tg :: tgs) X.env).map (·.2) = assign tg X.env :: (assignEach tgs X.env).map (·.2) := by rfl) : AGs X C (tg :: tgs) (tcC c t) (ws ++ ws2) fun Γ x => ups (up Γ x.1) x.2 := ⟨fun Γ σ W H vs x Q s q k pins sh us I rv => by
  obtain ⟨v, vr, rfl, q1, q2⟩ := q
  cases rv with
  | cons r rr =>
    rw [hs]
    refine assignInOrder_cons (thn (h.run Γ σ W H v x.1 (fun σ' H' => H' = H ∧ Sat C (up Γ x.1) σ' W H ∧ Agr ws σ σ') s q1 (fun σ' s' ag => ⟨rfl, s', ag⟩) pins sh _ I r) fun _ s1 ⟨σ1, H1, I1, eH, s1', ag⟩ => ?_)
    subst eH
    exact hr.run (up Γ x.1) σ1 W H1 vr x.2 Q s1' q2 (fun σ2 s2 ag2 => k σ2 s2 ⟨ag2.len.trans ag.len, fun i hi => by
      simp only [List.mem_append, not_or] at hi
      exact (ag2.eq i hi.2).trans (ag.eq i hi.1)⟩) pins s1 _ I1 rr, fun Γ x vs hh => by
    rw [hr.dr _ _ _ fun i hi => hh i (List.mem_append_right _ hi)]
    exact h.dr _ _ _ fun i hi => hh i (List.mem_append_left _ hi)⟩
theorem ags_one {tg : Expr} {c : Cod X.K α} {ws : List Nat} {up : En X.K → α → En X.K} (h : AG X C tg c ws up)
    (hs : (assignEach [tg] X.env).map (·.2) = assign tg X.env :: (assignEach [] X.env).map (·.2) := by rfl) : AGs X C [tg] (tc1 c) ws up := ⟨fun Γ σ W H vs x Q s q k pins sh us I rv => by
  obtain ⟨v, rfl, q1⟩ := q
  cases rv with
  | cons r rr =>
    rw [hs]
    refine assignInOrder_cons (thn (h.run Γ σ W H v x (fun σ' H' => H' = H ∧ Sat C (up Γ x) σ' W H ∧ Agr ws σ σ') s q1 (fun σ' s' ag => ⟨rfl, s', ag⟩) pins sh _ I r) fun _ s1 ⟨σ1, H1, I1, eH, s1', ag⟩ => ?_)
    subst eH
    exact pgs_nil.run pins s1 σ1 H1 [] _ Q I1 rr ⟨rfl, k σ1 s1' ag⟩, h.dr⟩
theorem ag_tup {t : TC X.K α} {ws : List Nat} {up : En X.K → α → En X.K} {k} (hc : X.calm = true) (h : AGs X C es t ws up) (hn : (assignEach es X.env).length = t.n := by rfl) (hst : (assignEach es X.env).findIdx? (·.1) = none := by rfl) :
    AG X C (.Tuple es k pos) (cTup t) ws up := ⟨fun Γ σ W H v x Q s q kk pins sh u I rv => by
  obtain ⟨ad, vs, rfl, h2, h3⟩ := q
  have pg : PGs X es (fun us σ' H' Q' => us = vs ∧ σ' = σ ∧ H' = H ∧ Q' = Q) := ⟨fun pins s1 σ1 H1 vs1 us1 Q1 I1 r1 ⟨e1, e2, e3, e4⟩ => by
    subst e1 e2 e3 e4
    exact h.run Γ _ W _ _ x _ s h3 kk pins s1 us1 I1 r1⟩
  exact (pg_tup hc pg hn hst).run pins sh σ H (.ref ad) u Q I rv ⟨ad, vs, rfl, Same.tup s.sub h2, t.len h3, rfl, rfl, rfl, rfl⟩, h.dr⟩
/-- (a, b, ..) = e, for .. in e: by a target -/
theorem gs_asg {c : Cod X.K α} {tg : Expr} {ws : List Nat} {up : En X.K → α → En X.K} (hg : AG X C tg c ws up) (h : EX X C Γ e c r fun x Γ1 r1 => T.nx (up Γ1 x) r1) (hs : swapsWithSole [tg] e pos.line X.env = pure false := by rfl) (hw : swappedStores [tg] e X.env = pure none := by rfl)
    (h1 : (assignEach [tg] X.env).map (·.2) = [assign tg X.env] := by rfl) : GK X C (wpS X (.Assign [tg] e pos)) Γ r T := GK.mk fun z σ W H D s hr kn kb kc kr =>
  w_ps (ps_asg pe_w pg_w hs hw h1) (h z σ W H _ s hr fun x Γ1 r1 W1 H1 v j1 hr1 s1 w1 q1 => hg.run Γ1 σ W1 H1 v x _ s1 q1 fun σ' s' _ => kn _ r1 σ' W1 H1 j1 hr1 s' w1)
/-- a, b = e1, e2 with local names -/
theorem gs_par {c1 : Cod X.K α} {c2 : Cod X.K γ} {x y : Str} {px py pt : Pos} {kt k2 pt2} (i j : Nat) (hc : X.calm = true) (hnd : X.N.Nodup)
    (h : EA X C Γ [a, b] (tcC c1 (tc1 c2)) r fun v Γ1 r1 => T.nx ((Γ1.set i (.im c1 v.1)).set j (.im c2 v.2)) r1) (hi : X.N[i]? = some x := by rfl) (hj : X.N[j]? = some y := by rfl) (hij : i ≠ j := by decide)
    (hx : X.env.scope.names.lookup x = some .local := by rfl) (hy : X.env.scope.names.lookup y = some .local := by rfl)
    (hw : swappedStores [.Tuple [.Name x px, .Name y py] kt pt] (.Tuple [a, b] k2 pt2) X.env = pure (some [x, y]) := by rfl)
    (hs : swapsWithSole [.Tuple [.Name x px, .Name y py] kt pt] (.Tuple [a, b] k2 pt2) pos.line X.env = pure false := by rfl) : GK X C (wpS X (.Assign [.Tuple [.Name x px, .Name y py] kt pt] (.Tuple [a, b] k2 pt2) pos)) Γ r T := GK.mk fun z σ W H D s hr kn kb kc kr pins sh I => by
  have hl : i < σ.length := set_len (n := 0) I.len hi
  have hl2 : j < σ.length := set_len (n := 0) I.len hj
  exact (ps_par hc hnd hi hj hij hx hy pa_w hw hs).run pins sh σ H D I (h z σ W H _ s hr fun v Γ1 r1 W1 H1 vs j1 hr1 s1 w1 q1 => by
    obtain ⟨v1, r, rfl, q2, v2, rfl, q3⟩ := q1
    exact ⟨v1, v2, rfl, kn _ r1 _ W1 H1 j1 hr1 ((s1.put hl q2).put (by rw [List.length_set]; exact hl2) q3) w1⟩)

/-! while -/
/-- turns of f, at most n -/
def whl {S : Type} : Nat → S → (S → Option (Fl S ρ)) → Option (Fl S ρ)
  | 0, _, _ => none
  | n + 1, s, f => f s >>= fun o => match o with
    | .nx s' => whl n s' f
    | .ct s' => whl n s' f
    | .bk s' => some (.nx s')
    | .rt x => some (.rt x)
theorem gs_while {S : Type} (n : Nat) (s0 : S) (f : S → Option (Fl S ρ)) (k : Fl S ρ → Option β) (Γs : S → En X.K) (hr0 : r = whl n s0 f >>= k) (g0 : Wk C Γ (Γs s0))
    (hb : ∀ s, ET X C (Γs s) e (f s) fun x Γ1 r1 => ∃ ra, r1 = cond x ra (some (.bk s)) ∧ Wk C Γ1 (Γs s) ∧ GK X C (wpB X sts) Γ1 ra (goF C T.R Γs))
    (h : ∀ s, T.nx (Γs s) (k (.nx s))) (hret : ∀ x, k (.rt x) = some (T.ret x)) (hp : PassesOwn (model X.prog X.w) X.A X.env X.xe) : GK X C (wpS X (.While e sts [] pos)) Γ r T := GK.mk fun z σ W H D s hr kn kb kc kr => by
  rw [hr0] at hr
  obtain ⟨t, e1, e2⟩ := bind_some hr
  refine w_ps (ps_while hp pt_w pss_w) ⟨fun m σ H => ∃ s W', whl m s f = some t ∧ Sat C (Γs s) σ W' H ∧ Same W W', ⟨n, ?_⟩, ?_⟩
  · obtain ⟨W1, w1, s1⟩ := g0 σ W H s
    exact ⟨s0, W1, e1, s1, w1⟩
  · rintro m σ1 H1 ⟨s1, W1, f1, sat1, w1⟩
    cases m with
    | zero => cases f1
    | succ m =>
      obtain ⟨o, f2, f3⟩ := bind_some (show f s1 >>= _ = some t from f1)
      refine hb s1 o σ1 W1 H1 _ sat1 f2 fun x Γ2 r2 W2 H2 j2 hr2 s2 w2 => ?_
      obtain ⟨ra, e3, g3, gb⟩ := j2
      rw [e3] at hr2
      cases x with
      | false =>
        rw [if_neg Bool.false_ne_true]
        have hr2 : some (Fl.bk s1) = some o := hr2
        cases hr2
        have f3 : some (Fl.nx s1) = some t := f3
        cases f3
        obtain ⟨W3, w3, s3⟩ := g3 σ1 W2 H2 s2
        exact kn _ _ σ1 W3 H2 (h s1) e2 s3 ((w1.trans w2).trans w3)
      | true =>
        rw [if_pos rfl]
        refine ⟨fun σ' H' => ∃ m', m' < m + 1 ∧ ∃ s W', whl m' s f = some t ∧ Sat C (Γs s) σ' W' H' ∧ Same W W', fun σ' H' q => q, ?_⟩
        have hr2 : ra = some o := hr2
        refine gb o σ1 W2 H2 _ s2 hr2 (fun Γ4 r4 σ4 W4 H4 j4 hr4 s4 w4 => ?_) (fun Γ4 r4 σ4 W4 H4 j4 hr4 s4 w4 => ?_) (fun Γ4 r4 σ4 W4 H4 j4 hr4 s4 w4 => ?_) fun x v Γ4 σ4 W4 H4 e4 s4 w4 q4 => ?_
        · obtain ⟨t4, e4, g4⟩ := j4
          rw [hr4] at e4; cases e4
          obtain ⟨W5, w5, s5⟩ := g4 σ4 W4 H4 s4
          exact ⟨m, Nat.lt_succ_self _, t4, W5, f3, s5, ((w1.trans w2).trans w4).trans w5⟩
        · obtain ⟨t4, e4, g4⟩ := j4
          rw [hr4] at e4; cases e4
          have f3 : some (Fl.nx t4) = some t := f3
          cases f3
          obtain ⟨W5, w5, s5⟩ := g4 σ4 W4 H4 s4
          exact kn _ _ σ4 W5 H4 (h t4) e2 s5 (((w1.trans w2).trans w4).trans w5)
        · obtain ⟨t4, e4, g4⟩ := j4
          rw [hr4] at e4; cases e4
          obtain ⟨W5, w5, s5⟩ := g4 σ4 W4 H4 s4
          exact ⟨m, Nat.lt_succ_self _, t4, W5, f3, s5, ((w1.trans w2).trans w4).trans w5⟩
        · have e4 : Fl.rt x = o := e4
          subst e4
          have f3 : some (Fl.rt x) = some t := f3
          cases f3
          rw [hret x] at e2
          exact kr x v Γ4 σ4 W4 H4 (Option.some.inj e2) s4 ((w1.trans w2).trans w4) q4

/-! for -/
/-- what is walked: xs, whatever the heap grows to -/
structure WalksX (c : Cod X.K α) (W0 : Hp) (xs : List α) (J : It) : Prop where
  len : xs.length ≤ sizeLine
  at_ : ∀ (i : Nat) (W H : Hp), Same W0 W → Same W H →
    (xs.length ≤ i → J.stop i H) ∧ (i < xs.length → J.go i H ∧ ∀ v H', J.yld i H v H' → ∃ W' x, Grow W H W' H' ∧ xs[i]? = some x ∧ c.rp W' v x)
/-- no list is too long -/
def LenOk (H : Hp) : Prop := ∀ a xs, (Rd H a (.lst xs) ∨ Rd H a (.tup xs)) → xs.length ≤ sizeLine
theorem lenOk_of {P : Program} {w : World} {H : Hp} {h : Heap} (x : HOk P w H h) : LenOk H := fun a xs q => by
  rcases q with q | q
  · exact (q.ok x).1
  · exact (q.ok x).1
theorem pe_wL : PE X e fun σ H Q => wpe X e σ H fun v H' => LenOk H' → Q v H' := ⟨fun pins s σ H Q I h => thn (h pins s I) fun v s1 ⟨x, H1, I1, r1, q1⟩ => ⟨x, H1, I1, r1, q1 (lenOk_of I1.hok)⟩⟩
theorem sqt_len {K : Frag} {H : Hp} {a : Addr} {xs : List V} (l : LenOk H) (h : SqT K H a xs) : xs.length ≤ sizeLine := by
  rcases h with h | ⟨o, its, n, _, _, _, hz, r⟩
  · exact l a xs (.inr h)
  · rw [r.length]; simpa using hz
theorem sql_len {K : Frag} {H : Hp} {a : Addr} {xs : List V} (l : LenOk H) (h : SqL K H a xs) : xs.length ≤ sizeLine := by
  rcases h with h | ⟨o, its, n, _, _, _, _, hz, r⟩
  · exact l a xs (.inl h)
  · rw [r.length]; simpa using hz
structure EI (X : Cx) (C : Ct) (Γ : En X.K) (tg e : Expr) (c : Cod X.K α) (r : Option β) (J : List α → En X.K → Option β → Prop) : Prop where
  run : ∀ (z : β) σ W H (R : It → Hp → Prop), Sat C Γ σ W H → r = some z →
    (∀ xs Γ' r' W' H' It, J xs Γ' r' → r' = some z → Sat C Γ' σ W' H' → Same W W' → WalksX c W' xs It → R It H') → wpi X tg e σ H R
instance {X : Cx} {C : Ct} {α β : Type} {Γ : En X.K} {tg e : Expr} {c : Cod X.K α} {r : Option β} {J : List α → En X.K → Option β → Prop} : CoeFun (EI X C Γ tg e c r J) (fun _ => ∀ (z : β) σ W H (R : It → Hp → Prop), Sat C Γ σ W H → r = some z →
    (∀ xs Γ' r' W' H' It, J xs Γ' r' → r' = some z → Sat C Γ' σ W' H' → Same W W' → WalksX c W' xs It → R It H') → wpi X tg e σ H R) := ⟨EI.run⟩
variable {tg : Expr}
theorem ei_lst {c : Cod X.K α} {J : List α → En X.K → Option β → Prop} (h : EX X C Γ e (cLst c) r J) : EI X C Γ tg e c r J := .mk fun z σ W H R s hr k =>
  w_pi (pi_list pe_wL) (h z σ W H _ s hr fun x Γ1 r1 W1 H1 v j1 hr1 s1 w1 q1 lo => by
    obtain ⟨ad, vs, rfl, h2, h3⟩ := q1
    refine ⟨ad, rfl, ⟨vs, SqL.of (s1.sub _ _ h2)⟩, k x Γ1 r1 W1 H1 _ j1 hr1 s1 w1 ⟨by rw [← h3.length]; exact sql_len (K := X.K) lo (SqL.of (s1.sub _ _ h2)), fun i W2 H2 w2 sb => ⟨fun hi => ⟨vs, SqL.of (sb _ _ (w2 _ _ h2)), by rw [h3.length]; exact hi⟩, fun hi => ?_⟩⟩⟩
    have hs : SqL X.K H2 ad vs := SqL.of (sb _ _ (w2 _ _ h2))
    obtain ⟨v, e1, e2⟩ := h3.get (i := i) (x := x[i]) (by simp [hi])
    refine ⟨⟨vs, v, hs, e1⟩, fun v' H' ⟨eH, y⟩ => ?_⟩
    subst eH
    have ev := y vs hs
    rw [e1] at ev; cases ev
    exact ⟨W2, x[i], Grow.refl sb, by simp [hi], c.mono w2 e2⟩)
theorem ei_seq {c : Cod X.K α} {J : List α → En X.K → Option β → Prop} (h : EX X C Γ e (cSeq c) r J) : EI X C Γ tg e c r J := .mk fun z σ W H R s hr k =>
  w_pi (pi_tup pe_wL) (h z σ W H _ s hr fun x Γ1 r1 W1 H1 v j1 hr1 s1 w1 q1 lo => by
    obtain ⟨ad, vs, rfl, h2, h3⟩ := q1
    refine ⟨ad, rfl, ⟨vs, Same.tup s1.sub h2⟩, k x Γ1 r1 W1 H1 _ j1 hr1 s1 w1 ⟨by rw [← h3.length]; exact sqt_len lo (Same.tup s1.sub h2), fun i W2 H2 w2 sb => ⟨fun hi => ⟨vs, Same.tup sb (Same.tup w2 h2), by rw [h3.length]; exact hi⟩, fun hi => ?_⟩⟩⟩
    have hs : SqT X.K H2 ad vs := Same.tup sb (Same.tup w2 h2)
    obtain ⟨v, e1, e2⟩ := h3.get (i := i) (x := x[i]) (by simp [hi])
    refine ⟨⟨vs, v, hs, e1⟩, fun v' H' ⟨eH, y⟩ => ?_⟩
    subst eH
    have ev := y vs hs
    rw [e1] at ev; cases ev
    exact ⟨W2, x[i], Grow.refl sb, by simp [hi], c.mono w2 e2⟩)
theorem ei_scr {J : List Int → En X.K → Option β → Prop} (h : EX X C Γ e cScr r J) : EI X C Γ tg e cInt r J := .mk fun z σ W H R s hr k =>
  w_pi (pi_list pe_wL) (h z σ W H _ s hr fun x Γ1 r1 W1 H1 v j1 hr1 s1 w1 q1 lo => by
    obtain ⟨ad, rfl, h2⟩ := q1
    have h3 := Row.of_ints (K := X.K) (H := W1) x
    refine ⟨ad, rfl, ⟨_, Same.seq s1.sub h2⟩, k x Γ1 r1 W1 H1 _ j1 hr1 s1 w1 ⟨by rw [← h3.length]; exact sql_len lo (Same.seq s1.sub h2), fun i W2 H2 w2 sb => ⟨fun hi => ⟨_, Same.seq sb (Same.seq w2 h2), by rw [h3.length]; exact hi⟩, fun hi => ?_⟩⟩⟩
    have hs := Same.seq sb (Same.seq w2 h2)
    obtain ⟨v, e1, e2⟩ := h3.get (i := i) (x := x[i]) (by simp [hi])
    refine ⟨⟨_, v, hs, e1⟩, fun v' H' ⟨eH, y⟩ => ?_⟩
    subst eH
    have ev := y _ hs
    rw [e1] at ev; cases ev
    exact ⟨W2, x[i], Grow.refl sb, by simp [hi], e2⟩)
/-- lo, lo + 1, .. below hi -/
def rangeI (lo hi : Int) : List Int := (List.range (hi - lo).toNat).map fun i : Nat => lo + (i : Int)
def CRng (i : Int) : Prop := -8000000 ≤ i ∧ i ≤ 8000000
instance (i : Int) : Decidable (CRng i) := inferInstanceAs (Decidable (_ ∧ _))
def rng1 (n : Int) : Option (List Int) := if CRng n then some (rangeI 0 n) else none
def rng2 (i j : Int) : Option (List Int) := if CRng i ∧ CRng j then some (rangeI i j) else none
theorem walks_rng {W0 : Hp} (lo : Int) (hi : Int) (h1 : CRng lo) (h2 : CRng hi) : WalksX (X := X) cInt W0 (rangeI lo hi) (Itr lo (hi - lo).toNat) := by
  have hl : (rangeI lo hi).length = (hi - lo).toNat := by simp [rangeI]
  refine ⟨by rw [hl]; obtain ⟨a, b⟩ := h1; obtain ⟨c, d⟩ := h2; exact Nat.le_trans (show (hi - lo).toNat ≤ 16000000 by omega) (by decide), fun i W H w sb => ?_⟩
  rw [hl]
  refine ⟨fun h => h, fun h => ⟨h, fun v H' ⟨eH, ev⟩ => ?_⟩⟩
  subst eH
  exact ⟨W, lo + (i : Int), Grow.refl sb, by simp [rangeI, h], ev⟩
theorem ei_rng1 {J : List Int → En X.K → Option β → Prop} (hm : X.mg "range" = none) (h : EX X C Γ a cInt r fun n Γ1 r1 => ∃ k, r1 = rng1 n >>= k ∧ ∀ xs, J xs Γ1 (k xs)) (hg : Gl X "range" := by rfl) (hs : starEach [a] X.env = [(false, eval a X.env)] := by rfl) :
    EI X C Γ tg (.Call (.Name "range" p) [a] [] pos) cInt r J := .mk fun z σ W H R s hr k =>
  w_pi (pi_range1 hg hm (pa_cons pe_w pa_nil hs) hs) (h z σ W H _ s hr fun n Γ1 r1 W1 H1 v j1 hr1 s1 w1 q1 => by
    obtain ⟨k2, e2, j2⟩ := j1
    rw [e2] at hr1
    obtain ⟨t, et, ht⟩ := bind_some hr1
    unfold rng1 at et
    split at et
    · rename_i hc
      cases et
      obtain ⟨c1, c2⟩ := id hc
      refine ⟨n, by rw [show v = V.int n from q1], by omega, by omega, k _ Γ1 _ W1 H1 _ (j2 _) ht s1 w1 ?_⟩
      have := walks_rng (X := X) (W0 := W1) 0 n ⟨by decide, by decide⟩ hc
      rwa [Int.sub_zero] at this
    · cases et)
theorem ei_rng2 {J : List Int → En X.K → Option β → Prop} (hm : X.mg "range" = none) (h : EA X C Γ [a, b] (tcC cInt (tc1 cInt)) r fun n Γ1 r1 => ∃ k, r1 = rng2 n.1 n.2 >>= k ∧ ∀ xs, J xs Γ1 (k xs)) (hg : Gl X "range" := by rfl)
    (hs : starEach [a, b] X.env = [(false, eval a X.env), (false, eval b X.env)] := by rfl) (hs2 : starEach [b] X.env = [(false, eval b X.env)] := by rfl) :
    EI X C Γ tg (.Call (.Name "range" p) [a, b] [] pos) cInt r J := .mk fun z σ W H R s hr k =>
  w_pi (pi_range2 hg hm pa_w hs hs2) (h z σ W H _ s hr fun n Γ1 r1 W1 H1 vs j1 hr1 s1 w1 q1 => by
    obtain ⟨v1, r, rfl, q2, v2, rfl, q3⟩ := q1
    obtain ⟨k2, e2, j2⟩ := j1
    rw [e2] at hr1
    obtain ⟨t, et, ht⟩ := bind_some hr1
    unfold rng2 at et
    split at et
    · rename_i hc
      cases et
      cases q2; cases q3
      obtain ⟨⟨c1, c2⟩, ⟨c3, c4⟩⟩ := id hc
      exact ⟨n.1, n.2, rfl, ⟨by omega, by omega, by omega, by omega⟩, k _ Γ1 _ W1 H1 _ (j2 _) ht s1 w1 (walks_rng _ _ hc.1 hc.2)⟩
    · cases et)
/-- a loop that only goes on -/
def forS {S : Type} : List α → S → (α → S → Option S) → Option S
  | [], s, _ => some s
  | x :: xs, s, f => f x s >>= fun s' => forS xs s' f
/-- .. that may go back, out, again -/
def forF {S : Type} : List α → S → (α → S → Option (Fl S ρ)) → Option (Fl S ρ)
  | [], s, _ => some (.nx s)
  | x :: xs, s, f => f x s >>= fun o => match o with
    | .nx s' => forF xs s' f
    | .ct s' => forF xs s' f
    | .bk s' => some (.nx s')
    | .rt x => some (.rt x)
theorem gs_forS {S : Type} {c : Cod X.K α} {ws : List Nat} {up : En X.K → α → En X.K} (Γs : S → En X.K) (hc : X.calm = true) (hg : AG X C tg c ws up)
    (h : EI X C Γ tg e c r fun xs Γ1 r1 => ∃ s0 f k, r1 = forS xs s0 f >>= k ∧ Wk C Γ1 (Γs s0) ∧ (∀ x s, GK X C (wpB X sts) (up (Γs s) x) (f x s) { goS C Γs with ct := (goS C Γs).nx }) ∧ ∀ s, T.nx (Γs s) (k s))
    (hp : PassesOwn (model X.prog X.w) X.A X.env X.xe) (hs : ∀ x, foldedSetIterable e X.env x = pure x := by intro _; rfl) : GK X C (wpS X (.For tg e sts [] pos)) Γ r T := GK.mk fun z σ W H D s hr kn kb kc kr =>
  w_ps (ps_for hp hc pi_w pg_w pss_w hs) (h z σ W H _ s hr fun xs Γ1 r1 W1 H1 It j1 hr1 s1 w1 wk => by
    obtain ⟨s0, f, k, e1, g0, body, hk⟩ := j1
    rw [e1] at hr1
    obtain ⟨t, f1, f2⟩ := bind_some hr1
    refine ⟨fun i m σ H => m = xs.length - i ∧ i ≤ xs.length ∧ ∃ s W', forS (xs.drop i) s f = some t ∧ Sat C (Γs s) σ W' H ∧ Same W1 W', ⟨xs.length, ?_⟩, ?_⟩
    · obtain ⟨W2, w2, s2⟩ := g0 σ W1 H1 s1
      exact ⟨by simp, Nat.zero_le _, s0, W2, by simpa using f1, s2, w2⟩
    · rintro i m σ2 H2 ⟨rfl, hi, s2, W2, f3, sat2, w2⟩
      obtain ⟨st, gg⟩ := wk.at_ i W2 H2 w2 sat2.sub
      by_cases hl : i < xs.length
      · obtain ⟨go, yy⟩ := gg hl
        have ed : xs.drop i = xs[i] :: xs.drop (i + 1) := List.drop_eq_getElem_cons hl
        rw [ed] at f3
        obtain ⟨s3, f4, f5⟩ := bind_some (show f xs[i] s2 >>= _ = some t from f3)
        refine .inr ⟨go, fun σ' H' => ∃ s W', forS (xs.drop (i + 1)) s f = some t ∧ Sat C (Γs s) σ' W' H' ∧ Same W1 W', fun σ' H' q => ⟨xs.length - (i + 1), by omega, rfl, hl, q⟩, fun v H3 y => ?_⟩
        obtain ⟨W3, x, G, ex, rx⟩ := yy v H3 y
        have ex' : xs[i] = x := by rw [List.getElem?_eq_getElem hl] at ex; exact Option.some.inj ex
        subst ex'
        refine hg.run (Γs s2) σ2 W3 H3 v xs[i] _ (sat2.grow G) rx fun σ4 s4 _ => ?_
        have fin : ∀ (Γ' : En X.K) (r' : Option S) (σ' : L2.St) (W' H' : Hp), (goS C Γs).nx Γ' r' → r' = some s3 → Sat C Γ' σ' W' H' → Same W3 W' → ∃ s W', forS (xs.drop (i + 1)) s f = some t ∧ Sat C (Γs s) σ' W' H' ∧ Same W1 W' := fun Γ' r' σ' W' H' j hr' s' w' => by
          obtain ⟨s5, e5, g5⟩ := j
          rw [hr'] at e5; cases e5
          obtain ⟨W6, w6, s6⟩ := g5 σ' W' H' s'
          exact ⟨s3, W6, f5, s6, ((w2.trans G.w).trans w').trans w6⟩
        exact body xs[i] s2 s3 σ4 W3 H3 _ s4 f4 (fun Γ' r' σ' W' H' j hr' s' w' => fin Γ' r' σ' W' H' j hr' s' w') (fun _ _ _ _ _ f => f.elim) (fun Γ' r' σ' W' H' j hr' s' w' => fin Γ' r' σ' W' H' j hr' s' w') fun x => x.elim
      · have ei : i = xs.length := by omega
        subst ei
        rw [List.drop_length] at f3
        have f3 : some s2 = some t := f3
        cases f3
        exact .inl ⟨st (Nat.le_refl _), kn _ _ σ2 W2 H2 (hk _) f2 sat2 (w1.trans w2)⟩)
theorem gs_forF {S : Type} {c : Cod X.K α} {ws : List Nat} {up : En X.K → α → En X.K} (Γs : S → En X.K) (hc : X.calm = true) (hg : AG X C tg c ws up)
    (h : EI X C Γ tg e c r fun xs Γ1 r1 => ∃ s0 f k, r1 = forF xs s0 f >>= k ∧ Wk C Γ1 (Γs s0) ∧ (∀ x s, GK X C (wpB X sts) (up (Γs s) x) (f x s) (goF C T.R Γs)) ∧ (∀ s, T.nx (Γs s) (k (.nx s))) ∧ ∀ x, k (.rt x) = some (T.ret x))
    (hp : PassesOwn (model X.prog X.w) X.A X.env X.xe) (hs : ∀ x, foldedSetIterable e X.env x = pure x := by intro _; rfl) : GK X C (wpS X (.For tg e sts [] pos)) Γ r T := GK.mk fun z σ W H D s hr kn kb kc kr =>
  w_ps (ps_for hp hc pi_w pg_w pss_w hs) (h z σ W H _ s hr fun xs Γ1 r1 W1 H1 It j1 hr1 s1 w1 wk => by
    obtain ⟨s0, f, k, e1, g0, body, hk, hret⟩ := j1
    rw [e1] at hr1
    obtain ⟨t, f1, f2⟩ := bind_some hr1
    refine ⟨fun i m σ H => m = xs.length - i ∧ i ≤ xs.length ∧ ∃ s W', forF (xs.drop i) s f = some t ∧ Sat C (Γs s) σ W' H ∧ Same W1 W', ⟨xs.length, ?_⟩, ?_⟩
    · obtain ⟨W2, w2, s2⟩ := g0 σ W1 H1 s1
      exact ⟨by simp, Nat.zero_le _, s0, W2, by simpa using f1, s2, w2⟩
    · rintro i m σ2 H2 ⟨rfl, hi, s2, W2, f3, sat2, w2⟩
      obtain ⟨st, gg⟩ := wk.at_ i W2 H2 w2 sat2.sub
      by_cases hl : i < xs.length
      · obtain ⟨go, yy⟩ := gg hl
        have ed : xs.drop i = xs[i] :: xs.drop (i + 1) := List.drop_eq_getElem_cons hl
        rw [ed] at f3
        obtain ⟨o, f4, f5⟩ := bind_some (show f xs[i] s2 >>= _ = some t from f3)
        refine .inr ⟨go, fun σ' H' => ∃ s W', forF (xs.drop (i + 1)) s f = some t ∧ Sat C (Γs s) σ' W' H' ∧ Same W1 W', fun σ' H' q => ⟨xs.length - (i + 1), by omega, rfl, hl, q⟩, fun v H3 y => ?_⟩
        obtain ⟨W3, x, G, ex, rx⟩ := yy v H3 y
        have ex' : xs[i] = x := by rw [List.getElem?_eq_getElem hl] at ex; exact Option.some.inj ex
        subst ex'
        refine hg.run (Γs s2) σ2 W3 H3 v xs[i] _ (sat2.grow G) rx fun σ4 s4 _ => ?_
        refine body xs[i] s2 o σ4 W3 H3 _ s4 f4 (fun Γ' r' σ' W' H' j hr' s' w' => ?_) (fun Γ' r' σ' W' H' j hr' s' w' => ?_) (fun Γ' r' σ' W' H' j hr' s' w' => ?_) fun x v Γ' σ' W' H' e' s' w' q' => ?_
        · obtain ⟨s5, e5, g5⟩ := j
          rw [hr'] at e5; cases e5
          obtain ⟨W6, w6, s6⟩ := g5 σ' W' H' s'
          exact ⟨s5, W6, f5, s6, ((w2.trans G.w).trans w').trans w6⟩
        · obtain ⟨s5, e5, g5⟩ := j
          rw [hr'] at e5; cases e5
          have f5 : some (Fl.nx s5) = some t := f5
          cases f5
          obtain ⟨W6, w6, s6⟩ := g5 σ' W' H' s'
          exact kn _ _ σ' W6 H' (hk s5) f2 s6 (w1.trans (((w2.trans G.w).trans w').trans w6))
        · obtain ⟨s5, e5, g5⟩ := j
          rw [hr'] at e5; cases e5
          obtain ⟨W6, w6, s6⟩ := g5 σ' W' H' s'
          exact ⟨s5, W6, f5, s6, ((w2.trans G.w).trans w').trans w6⟩
        · have e' : Fl.rt x = o := e'
          subst e'
          have f5 : some (Fl.rt x) = some t := f5
          cases f5
          rw [hret x] at f2
          exact kr x v Γ' σ' W' H' (Option.some.inj f2) s' (w1.trans ((w2.trans G.w).trans w')) q'
      · have ei : i = xs.length := by omega
        subst ei
        rw [List.drop_length] at f3
        have f3 : some (Fl.nx s2) = some t := f3
        cases f3
        exact .inl ⟨st (Nat.le_refl _), kn _ _ σ2 W2 H2 (hk s2) f2 sat2 (w1.trans w2)⟩)
end
end Ty

set_option maxHeartbeats 4000000
namespace Ty
open PySem PySem.Spec PyProof.Rows L2

/-! ### comprehensions -/
section
variable {α β S : Type}
/-- [f x for x in xs if t x], a state handed on -/
def lcG (t : α → S → Option (Bool × S)) (f : α → S → Option (β × S)) : List α → S → Option (List β × S)
  | [], s => some ([], s)
  | x :: xs, s => t x s >>= fun b => cond b.1 (f x b.2 >>= fun y => lcG t f xs y.2 >>= fun ys => some (y.1 :: ys.1, ys.2)) (lcG t f xs b.2)
def mapR (f : α → Option β) : List α → Option (List β)
  | [] => some []
  | x :: xs => f x >>= fun y => mapR f xs >>= fun ys => some (y :: ys)
def fltR (t : α → Option Bool) (f : α → Option β) : List α → Option (List β)
  | [] => some []
  | x :: xs => t x >>= fun b => cond b (f x >>= fun y => fltR t f xs >>= fun ys => some (y :: ys)) (fltR t f xs)
def mapS (f : α → S → Option (β × S)) : List α → S → Option (List β × S)
  | [], s => some ([], s)
  | x :: xs, s => f x s >>= fun y => mapS f xs y.2 >>= fun ys => some (y.1 :: ys.1, ys.2)
theorem obind_some {γ δ : Type} (a : γ) (k : γ → Option δ) : (some a >>= k) = k a := rfl
theorem lcG_map (f : α → Option β) : ∀ (xs : List α), lcG (fun _ s => some (true, s)) (fun x (s : Unit) => f x >>= fun y => some (y, s)) xs () = mapR f xs >>= fun ys => some (ys, ())
  | [] => rfl
  | x :: xs => by
    unfold lcG mapR
    simp only [obind_some, cond_true]
    cases f x with
    | none => rfl
    | some y =>
      simp only [obind_some]
      rw [lcG_map f xs]
      cases mapR f xs <;> rfl
theorem lcG_flt (t : α → Option Bool) (f : α → Option β) : ∀ (xs : List α), lcG (fun x s => t x >>= fun b => some (b, s)) (fun x (s : Unit) => f x >>= fun y => some (y, s)) xs () = fltR t f xs >>= fun ys => some (ys, ())
  | [] => rfl
  | x :: xs => by
    unfold lcG fltR
    cases t x with
    | none => rfl
    | some b =>
      simp only [obind_some]
      cases b with
      | false =>
        simp only [cond_false]
        exact lcG_flt t f xs
      | true =>
        simp only [cond_true]
        cases f x with
        | none => rfl
        | some y =>
          simp only [obind_some]
          rw [lcG_flt t f xs]
          cases fltR t f xs <;> rfl
theorem lcG_mapS (f : α → S → Option (β × S)) : ∀ (xs : List α) (s : S), lcG (fun _ s => some (true, s)) f xs s = mapS f xs s
  | [], s => rfl
  | x :: xs, s => by
    unfold lcG mapS
    simp only [obind_some, cond_true]
    congr 1
    funext y
    rw [lcG_mapS f xs]
theorem lcG_len {t : α → S → Option (Bool × S)} {f : α → S → Option (β × S)} : ∀ {xs : List α} {s : S} {z : List β × S}, lcG t f xs s = some z → z.1.length ≤ xs.length
  | [], s, z, h => by cases h; exact Nat.le_refl _
  | x :: xs, s, z, h => by
    obtain ⟨b, _, h2⟩ := bind_some (show t x s >>= _ = some z from h)
    cases hb : b.1 with
    | true =>
      rw [hb] at h2
      obtain ⟨y, _, h3⟩ := bind_some h2
      obtain ⟨ys, h4, h5⟩ := bind_some h3
      cases h5
      have := lcG_len h4
      simp only [List.length_cons]; omega
    | false =>
      rw [hb] at h2
      have := lcG_len (show lcG t f xs b.2 = some z from h2)
      simp only [List.length_cons]; omega
end
section
variable {X : Cx} {C : Ct} {ρ α β γ : Type} {Γ : En X.K} {tg elt e a b : Expr} {ifs es : List Expr} {r : Option ρ} {scope : Scope} {own' : List (Str × Nat)} {pos p p2 p3 : Pos}
def tsts (ifs : List Expr) (env : Env) : Sem Bool := forIn ifs true fun c r => if r = true then do let ok ← isTrue c env (eval c env); pure (ForInStep.yield ok) else pure (ForInStep.yield r)
/-- the tests of a comprehension -/
def EQ (X : Cx) (C : Ct) {ρ : Type} (Γ : En X.K) (es : List Expr) (r : Option ρ) (J : Bool → En X.K → Option ρ → Prop) : Prop :=
  ∀ (z : ρ) σ W H (Q : Bool → Hp → Prop), Sat C Γ σ W H → r = some z →
    (∀ x Γ' r' W' H', J x Γ' r' → r' = some z → Sat C Γ' σ W' H' → Same W W' → Q x H') → ∀ pins s, Inv X pins σ H s → wpAny (model X.prog X.w) X.A (tsts es X.env) (TP X pins σ Q) X.xe s
theorem eq_nil {J : Bool → En X.K → Option ρ → Prop} (h : J true Γ r) : EQ X C Γ [] r J := fun z σ W H Q s hr k pins sh I => pts_nil.run pins sh σ H Q I (k true Γ r W H h hr s (Same.refl _))
theorem eq_one {J : Bool → En X.K → Option ρ → Prop} (h : ET X C Γ e r J) : EQ X C Γ [e] r J := fun z σ W H Q s hr k pins sh I => (pts_one pt_w).run pins sh σ H Q I (h z σ W H Q s hr k)
/-- the context of a comprehension's block -/
abbrev bx (X : Cx) (scope : Scope) (s : Shared) (H : Hp) (Cc : Addr) (cl : List (Str × Addr)) (fp : List Addr) : Cx := X.blk s H scope (compEnvC scope cl Cc X.env) fp
theorem bind_val {δ : Type} (t : δ) (k : δ → Option ρ) : (some t >>= k) = k t := rfl
/-- [elt for tg in e if ..] gives a new list -/
def LC (X : Cx) (C : Ct) {ρ β : Type} (Γ : En X.K) (elt tg e : Expr) (ifs : List Expr) (scope : Scope) (d : Cod X.K β) (r : Option ρ) (J : List β → En X.K → Option ρ → Prop) : Prop :=
  ∃ (own' : List (Str × Nat)) (wi : TI) (g : TG) (tt : TT) (te : TE), BlkOk X.N X.env.scope scope own' ∧ PI X tg e wi ∧ (∀ sh H Cc cl fp, PG (bx X scope sh H Cc cl fp) tg g) ∧ (∀ sh H Cc cl fp, PTs (bx X scope sh H Cc cl fp) ifs tt) ∧
    (∀ sh H Cc cl fp, PE (bx X scope sh H Cc cl fp) elt te) ∧ (∀ x, foldedSetIterable e X.env x = pure x) ∧
    ∀ (z : ρ) σ W H (Q : VK), Sat C Γ σ W H → r = some z →
      (∀ x Γ' r' W' H' p o, J x Γ' r' → r' = some z → Sat C Γ' σ W' H' → Same W W' → W' p = none → C.H p = none → H' p = some o → (lstC d).ct W' o x → Apart Γ' σ p → C.a ≠ some p → Q (.ref p) H') → tLc wi g tt te (own'.map (·.2)) σ H Q
theorem ef_lc {d : Cod X.K β} {J : List β → En X.K → Option ρ → Prop} (hc : X.calm = true) (hnd : X.N.Nodup) (h : LC X C Γ elt tg e ifs scope d r J) : EF X C Γ (.ListComp elt [⟨tg, e, ifs, 0⟩] scope pos) (lstC d) r J := by
  obtain ⟨own', wi, g, tt, te, ok, hi, hg, ht, he, hs, hq⟩ := h
  exact .mk fun z σ W H Q s hr k => w_pe (pe_lc hc hnd hi ok hg ht he hs) (hq z σ W H Q s hr k)
theorem gs_setLc {β' ρ' : Type} {r : Option β'} {T : Go X.K ρ' β'} {d : Cod X.K β} {y : Str} {py spos : Pos} (i : Nat) (hc : X.calm = true) (hnd : X.N.Nodup) (h : LC X C Γ elt tg e ifs scope d r fun x Γ1 r1 => T.nx (Γ1.set i (.ow (lstC d) x)) r1) (hy : X.N[i]? = some y := by rfl) (hyl : X.env.scope.names.lookup y = some .local := by rfl)
    (hsw : swapsWith (.ListComp elt [⟨tg, e, ifs, 0⟩] scope pos) (some (.Name y py)) spos.line X.env = pure true := by exact sw_true rfl rfl rfl (by decide +kernel)) : GK X C (wpS X (.Assign [.Name y py] (.ListComp elt [⟨tg, e, ifs, 0⟩] scope pos) spos)) Γ r T := by
  obtain ⟨own', wi, g, tt, te, ok, hi, hg, ht, he, hs, hq⟩ := h
  exact GK.mk fun z σ W H D s hr kn kb kc kr pins sh I => by
    have hl : i < σ.length := set_len (n := 0) I.len hy
    exact (ps_setLc hc hnd hy hyl hsw hi ok hg ht he hs).run pins sh σ H D I (hq z σ W H _ s hr fun x Γ1 r1 W1 H1 p o j1 hr1 s1 w1 wp cp hp ct ap la => kn _ r1 _ W1 H1 j1 hr1 (s1.take hl wp (.inl cp) hp ct ap la) w1)
/-- .. that stands still from now on -/
theorem gs_setLcV {β' ρ' : Type} {r : Option β'} {T : Go X.K ρ' β'} {d : Cod X.K β} {y : Str} {py spos : Pos} (i : Nat) (hc : X.calm = true) (hnd : X.N.Nodup) (hB : ∀ a, ¬ C.B a) (h : LC X C Γ elt tg e ifs scope d r fun x Γ1 r1 => i < Γ1.length ∧ T.nx (Γ1.set i (.im (cLst d) x)) r1) (hy : X.N[i]? = some y := by rfl) (hyl : X.env.scope.names.lookup y = some .local := by rfl)
    (hsw : swapsWith (.ListComp elt [⟨tg, e, ifs, 0⟩] scope pos) (some (.Name y py)) spos.line X.env = pure true := by exact sw_true rfl rfl rfl (by decide +kernel)) : GK X C (wpS X (.Assign [.Name y py] (.ListComp elt [⟨tg, e, ifs, 0⟩] scope pos) spos)) Γ r T := by
  obtain ⟨own', wi, g, tt, te, ok, hi, hg, ht, he, hs, hq⟩ := h
  exact GK.mk fun z σ W H D s hr kn kb kc kr pins sh I => by
    have hl : i < σ.length := set_len (n := 0) I.len hy
    refine (ps_setLc hc hnd hy hyl hsw hi ok hg ht he hs).run pins sh σ H D I (hq z σ W H _ s hr fun x Γ1 r1 W1 H1 p o j1 hr1 s1 w1 wp cp hp ct ap la => ?_)
    obtain ⟨hlen, j1⟩ := j1
    have t := s1.take hl wp (.inl cp) hp ct ap la
    obtain ⟨W2, w2, s2⟩ := t.freeze (i := i) (c := d) (xs := x) (by rw [List.getElem?_set_self hlen]) fun a z => absurd z (hB a)
    rw [List.set_set] at s2
    exact kn _ r1 _ W2 H1 j1 hr1 s2 (w1.trans w2)
theorem lc_G {S : Type} {c : Cod X.K α} {d : Cod X.K β} {ws : List Nat} {up : En X.K → α → En X.K} {J : List β → En X.K → Option ρ → Prop} (ok : BlkOk X.N X.env.scope scope own')
    (h : EI X C Γ tg e c r fun xs Γ1 r1 => ∃ (Γs : S → En X.K), ∃ t f s0 k, r1 = lcG t f xs s0 >>= k ∧ Wk C Γ1 (drops (own'.map (·.2)) (Γs s0)) ∧ (∀ s, drops (own'.map (·.2)) (Γs s) = Γs s) ∧ (∀ z, J z.1 (Γs z.2) (k z)) ∧
      (∀ (C' : Ct) sh H Cc cl fp x s, EQ (bx X scope sh H Cc cl fp) C' (up (Γs s) x) ifs (t x s) fun b' Γ2 r2 => ∃ s2, r2 = some (b', s2) ∧ Wk C' Γ2 (up (Γs s2) x)) ∧
      (∀ (C' : Ct) sh H Cc cl fp x s, EX (bx X scope sh H Cc cl fp) C' (up (Γs s) x) elt d (f x s) fun y Γ2 r2 => ∃ s2, r2 = some (y, s2) ∧ Wk C' Γ2 (Γs s2)))
    (hg : ∀ (C' : Ct) sh H Cc cl fp, AG (bx X scope sh H Cc cl fp) C' tg c ws up) (hws : ∀ i ∈ ws, i ∈ own'.map (·.2) := by decide)
    (hs : ∀ x, foldedSetIterable e X.env x = pure x := by intro _; rfl) : LC X C Γ elt tg e ifs scope d r J := by
  -- the readings of the block's parts, whatever they are asked
  refine ⟨own', wpi X tg e, fun v σ1 H1 Q1 => ∀ sh H0 Cc cl fp, wpg (bx X scope sh H0 Cc cl fp) tg v σ1 H1 Q1,
    fun σ1 H1 Q1 => ∀ sh H0 Cc cl fp pins s', Inv (bx X scope sh H0 Cc cl fp) pins σ1 H1 s' → wpAny (model X.prog X.w) X.A (tsts ifs (bx X scope sh H0 Cc cl fp).env) (TP (bx X scope sh H0 Cc cl fp) pins σ1 Q1) (bx X scope sh H0 Cc cl fp).xe s',
    fun σ1 H1 Q1 => ∀ sh H0 Cc cl fp, wpe (bx X scope sh H0 Cc cl fp) elt σ1 H1 Q1,
    ok, pi_w, fun sh H0 Cc cl fp => ⟨fun pins s σ H v u Q I r h => h sh H0 Cc cl fp pins s u I r⟩, fun sh H0 Cc cl fp => ⟨fun pins s σ H Q I h => h sh H0 Cc cl fp pins s I⟩,
    fun sh H0 Cc cl fp => ⟨fun pins s σ H Q I h => h sh H0 Cc cl fp pins s I⟩, hs, fun z σ W H Q sat hr kk => ?_⟩
  refine h z σ W H _ sat hr fun xs Γ1 r1 W1 H1 It j1 hr1 s1 w1 wk => ?_
  have hlen := wk.len
  obtain ⟨Γs, t, f, s0, k, e1, g0, hdr, hk, htest, helt⟩ := j1
  have hup : ∀ (C' : Ct) sh H Cc cl fp s x, AG (bx X scope sh H Cc cl fp) C' tg c ws up → Wk C' (up (Γs s) x) (Γs s) := fun C' sh H Cc cl fp s x ag => by
    have q := wk_drops' (C := C') (own'.map (·.2)) (Γ := up (Γs s) x)
    rw [show drops (own'.map (·.2)) (up (Γs s) x) = Γs s from (ag.dr (Γs s) x _ hws).trans (hdr s)] at q
    exact q
  intro D hD
  rw [e1] at hr1
  obtain ⟨zz, f1, f2⟩ := bind_some hr1
  obtain ⟨W2, w2, s2⟩ := g0 σ W1 H1 s1
  rw [hdr] at s2
  obtain ⟨s3, wD, cD, apD, laD⟩ := s2.fresh (o := HO.lst []) hD
  have bD : ¬ C.B D := fun z => s2.lb D (.inl z) hD
  refine ⟨fun i m H' => m = xs.length - i ∧ i ≤ xs.length ∧ ∃ s acc ys rest W', lcG t f (xs.drop i) s = some rest ∧ zz = (ys ++ rest.1, rest.2) ∧ H' D = some (.lst acc) ∧ W' D = none ∧ Apart (Γs s) σ D ∧ Row d W' acc ys ∧ ys.length ≤ i ∧ Same W2 W' ∧ Sat C (Γs s) σ W' H', ⟨xs.length, ?_⟩, ?_⟩
  · exact ⟨by simp, Nat.zero_le _, s0, [], [], zz, W2, by simpa using f1, by simp, upd_same, wD, apD, .nil, Nat.le_refl _, Same.refl _, s3⟩
  rintro i m H' ⟨rfl, hi, s, acc, ys, rest, W', g1, g2, hD', wD', ap', row, hy, w', sat'⟩
  obtain ⟨stop, gg⟩ := wk.at_ i W' H' (w2.trans w') sat'.sub
  by_cases hl : i < xs.length
  · obtain ⟨go, yy⟩ := gg hl
    have ed : xs.drop i = xs[i] :: xs.drop (i + 1) := List.drop_eq_getElem_cons hl
    rw [ed] at g1
    obtain ⟨b1, t1, t2⟩ := bind_some (show t xs[i] s >>= _ = some rest from g1)
    refine .inr ⟨go, fun H' => ∃ s acc ys rest W', lcG t f (xs.drop (i + 1)) s = some rest ∧ zz = (ys ++ rest.1, rest.2) ∧ H' D = some (.lst acc) ∧ W' D = none ∧ Apart (Γs s) σ D ∧ Row d W' acc ys ∧ ys.length ≤ i + 1 ∧ Same W2 W' ∧ Sat C (Γs s) σ W' H',
      fun H' q => ⟨xs.length - (i + 1), by omega, rfl, hl, q⟩, fun v H3 y => ?_⟩
    obtain ⟨W3, x, G, ex, rx⟩ := yy v H3 y
    have ex' : xs[i] = x := by rw [List.getElem?_eq_getElem hl] at ex; exact Option.some.inj ex
    subst ex'
    have sat3 := sat'.grow G
    have hD3 := G.h _ _ hD'
    have wD3 := G.nw D (by rw [hD']; simp) wD'
    -- the block's own context: all that stands stays
    have into := sat3.into
    have wp0 : Sat (inner C (Γs s) σ W3 H3) (Γs s) (L2.wipe σ (own'.map (·.2))) W3 H3 := by
      have q := into.wipe (own'.map (·.2))
      rw [show drops0 (own'.map (·.2)) (Γs s) = Γs s from hdr s] at q
      exact q
    intro sh H0 Cc cl fp
    refine (hg (inner C (Γs s) σ W3 H3) sh H0 Cc cl fp).run (Γs s) (L2.wipe σ (own'.map (·.2))) W3 H3 v xs[i] _ wp0 rx fun σ4 s4 ag => ?_
    have hw : L2.wipe σ4 (own'.map (·.2)) = L2.wipe σ (own'.map (·.2)) := by
      rw [ag.wipe hws]
      have idem : ∀ (vs us : List Nat) (τ : L2.St), (∀ i ∈ us, i ∈ vs) → L2.wipe (L2.wipe τ us) vs = L2.wipe τ vs := fun vs us τ hs => by
        apply List.ext_getElem?
        intro j
        have one : ∀ (τ : L2.St) (vs : List Nat), j ∈ vs → (L2.wipe τ vs)[j]? = if j < τ.length then some none else none := by
          intro τ vs
          induction vs with
          | nil => intro h; cases h
          | cons v vs ih =>
            intro hm
            show ((L2.wipe τ vs).set v none)[j]? = _
            by_cases hv : j = v
            · subst hv
              rw [List.getElem?_set]
              simp [wipe_length]
            · rw [List.getElem?_set_ne (Ne.symm hv)]
              exact ih ((List.mem_cons.mp hm).resolve_left hv)
        by_cases hj : j ∈ vs
        · rw [one _ vs hj, one _ vs hj, wipe_length]
        · rw [wipe_get hj, wipe_get hj, wipe_get fun z => hj (hs j z)]
      exact idem _ _ σ fun i h => h
    refine ⟨hw, fun sh H0 Cc cl fp pins s' I => ?_⟩
    refine htest (inner C (Γs s) σ W3 H3) sh H0 Cc cl fp xs[i] s b1 σ4 W3 H3 _ s4 t1 (fun bb Γ5 r5 W5 H5 j5 hr5 s5 w5 => ?_) pins s' I
    obtain ⟨s6, e6, wk6⟩ := j5
    rw [hr5] at e6; cases e6
    obtain ⟨W6, w6, sat6⟩ := wk6 σ4 W5 H5 s5
    -- back to the def's context at a turn's end
    have back : ∀ {s7 : S} {W7 H7 : Hp}, Sat (inner C (Γs s) σ W3 H3) (Γs s7) σ4 W7 H7 → Sat C (Γs s7) σ W7 H7 ∧ H7 D = some (.lst acc) ∧ W7 D = none ∧ Apart (Γs s7) σ D := fun {s7 W7 H7} q => by
      have q1 := q.wipe (own'.map (·.2))
      rw [hw] at q1
      have q2 := q1.unwipe
      rw [show drops0 (own'.map (·.2)) (Γs s7) = Γs s7 from hdr s7] at q2
      have nB : ¬ (inner C (Γs s) σ W3 H3).B D := fun z => by
        rcases z with z | ⟨j, oj, ej⟩
        · exact bD z
        · exact ap' j oj ej
      refine ⟨sat3.outof q2, q2.fr D _ hD3 nB laD, q2.nw D (by show H3 D ≠ none; rw [hD3]; simp) wD3, fun j oj ej => ?_⟩
      obtain ⟨ee, h1, h2⟩ := oj
      cases ee with
      | no => cases h2
      | im c x => cases h2
      | ow c x =>
        obtain ⟨ad, o, e1, e2, e3, e4, e5⟩ := q2.sl j _ h1
        have ea := getD_some e1
        rw [ej] at ea; cases ea
        rcases e3 with e3 | e3
        · rw [show (inner C (Γs s) σ W3 H3).H D = H3 D from rfl, hD3] at e3; cases e3
        · exact nB e3
      | lp => cases h2
      | ln c x => cases h2
    cases bb with
    | false =>
      rw [if_neg Bool.false_ne_true]
      obtain ⟨W7, w7, sat7⟩ := hup (inner C (Γs s) σ W3 H3) sh H0 Cc cl fp s6 xs[i] (hg _ sh H0 Cc cl fp) σ4 W6 H5 sat6
      obtain ⟨b1', b2, b3, b4⟩ := back sat7
      have ww : Same W' W7 := (((G.w).trans w5).trans w6).trans w7
      exact ⟨s6, acc, ys, rest, W7, t2, g2, b2, b3, b4, row.mono ww, Nat.le_succ_of_le hy, w'.trans ww, b1'⟩
    | true =>
      rw [if_pos rfl]
      obtain ⟨y1, t3, t4⟩ := bind_some (show f xs[i] s6 >>= _ = some rest from t2)
      obtain ⟨ys', t5, t6⟩ := bind_some t4
      cases t6
      intro sh H0 Cc cl fp
      refine helt (inner C (Γs s) σ W3 H3) sh H0 Cc cl fp xs[i] s6 y1 σ4 W6 H5 _ sat6 t3 fun yv Γ7 r7 W7 H7 v7 j7 hr7 s7 w7 q7 => ?_
      obtain ⟨s8, e8, wk8⟩ := j7
      rw [hr7] at e8; cases e8
      obtain ⟨W8, w8, sat8⟩ := wk8 σ4 W7 H7 s7
      obtain ⟨b1', b2, b3, b4⟩ := back sat8
      have ww : Same W' W8 := ((((G.w).trans w5).trans w6).trans w7).trans w8
      have row8 := (row.mono ww).append (Row.cons (d.mono w8 q7) .nil)
      refine ⟨acc, b2, ?_, s8, acc ++ [v7], ys ++ [yv], ys', W8, t5, ?_, upd_same, b3, b4, row8, ?_, w'.trans ww, b1'.side cD b3 b4 laD⟩
      · rw [row.length]
        exact Nat.lt_of_lt_of_le (Nat.lt_of_le_of_lt hy hl) hlen
      · rw [g2]; simp
      · simp; omega
  · have ei : i = xs.length := by omega
    subst ei
    rw [List.drop_length] at g1
    have g1 : some (([] : List β), s) = some rest := g1
    cases g1
    refine .inl ⟨stop (Nat.le_refl _), ?_⟩
    have hz : zz = (ys, s) := by rw [g2]; simp
    subst hz
    exact kk ys _ _ W' H' D _ (hk (ys, s)) f2 sat' ((w1.trans w2).trans w') wD' cD hD' ⟨acc, rfl, row⟩ ap' laD
end
end Ty

set_option maxHeartbeats 4000000
namespace Ty
open PySem PySem.Spec PyProof.Rows L2

section
variable {X : Cx} {C : Ct} {ρ α β γ : Type} {Γ : En X.K} {tg elt e a b : Expr} {es : List Expr} {r : Option ρ} {scope : Scope} {own' : List (Str × Nat)} {pos p p2 p3 apos cpos : Pos}
theorem ei_imp {c : Cod X.K α} {J J' : List α → En X.K → Option ρ → Prop} (h : EI X C Γ tg e c r J) (hj : ∀ x Γ' r', J x Γ' r' → J' x Γ' r') : EI X C Γ tg e c r J' := .mk fun z σ W H R s hr k => h z σ W H R s hr fun xs Γ' r' W' H' It j => k xs Γ' r' W' H' It (hj _ _ _ j)
/-- [f x for x in xs] -/
theorem lc_map {c : Cod X.K α} {d : Cod X.K β} {ws : List Nat} {up : En X.K → α → En X.K} {J : List β → En X.K → Option ρ → Prop} (ok : BlkOk X.N X.env.scope scope own')
    (hg : ∀ (C' : Ct) sh H Cc cl fp, AG (bx X scope sh H Cc cl fp) C' tg c ws up)
    (h : EI X C Γ tg e c r fun xs Γ1 r1 => ∃ f k, r1 = mapR f xs >>= k ∧ (∀ ys, J ys (drops (own'.map (·.2)) Γ1) (k ys)) ∧
      (∀ (C' : Ct) sh H Cc cl fp x, EX (bx X scope sh H Cc cl fp) C' (up (drops (own'.map (·.2)) Γ1) x) elt d (f x) fun y Γ2 r2 => r2 = some y ∧ Wk C' Γ2 (up (drops (own'.map (·.2)) Γ1) x)))
    (hws : ∀ i ∈ ws, i ∈ own'.map (·.2) := by decide) (hs : ∀ x, foldedSetIterable e X.env x = pure x := by intro _; rfl) : LC X C Γ elt tg e [] scope d r J := by
  refine lc_G (S := Unit) ok (ei_imp h fun xs Γ1 r1 j => ?_) hg hws hs
  obtain ⟨f, k, e1, hk, hb⟩ := j
  have idm : drops (own'.map (·.2)) (drops (own'.map (·.2)) Γ1) = drops (own'.map (·.2)) Γ1 := drops_idem _ _ _ fun _ h => h
  refine ⟨fun _ => drops (own'.map (·.2)) Γ1, fun _ s => some (true, s), fun x s => f x >>= fun y => some (y, s), (), fun z => k z.1, ?_, ?_, fun _ => idm, fun z => hk z.1, fun C' sh H Cc cl fp x s => ?_, fun C' sh H Cc cl fp x s => ?_⟩
  · rw [e1, lcG_map]
    cases mapR f xs <;> rfl
  · rw [idm]; exact wk_drops' _
  · exact eq_nil ⟨s, rfl, wk_refl⟩
  · refine .mk fun z σ W H' Q sat hr kk => ?_
    obtain ⟨y, e2, e3⟩ := bind_some hr
    refine (hb C' sh H Cc cl fp x).run y σ W H' Q sat e2 fun y' Γ2 r2 W2 H2 v j2 hr2 s2 w2 q2 => ?_
    obtain ⟨e4, wk⟩ := j2
    rw [hr2] at e4; cases e4
    refine kk y Γ2 (some (y, s)) W2 H2 v ⟨s, rfl, ?_⟩ e3 s2 w2 q2
    have q := wk_drops' (C := C') (own'.map (·.2)) (Γ := up (drops (own'.map (·.2)) Γ1) x)
    rw [show drops (own'.map (·.2)) (up (drops (own'.map (·.2)) Γ1) x) = drops (own'.map (·.2)) Γ1 from ((hg C' sh H Cc cl fp).dr _ x _ hws).trans idm] at q
    exact wk.trans q
/-- [f x for x in xs if t x] -/
theorem lc_flt {c : Cod X.K α} {d : Cod X.K β} {ws : List Nat} {up : En X.K → α → En X.K} {J : List β → En X.K → Option ρ → Prop} (ok : BlkOk X.N X.env.scope scope own')
    (hg : ∀ (C' : Ct) sh H Cc cl fp, AG (bx X scope sh H Cc cl fp) C' tg c ws up)
    (h : EI X C Γ tg e c r fun xs Γ1 r1 => ∃ t f k, r1 = fltR t f xs >>= k ∧ (∀ ys, J ys (drops (own'.map (·.2)) Γ1) (k ys)) ∧
      (∀ (C' : Ct) sh H Cc cl fp x, ET (bx X scope sh H Cc cl fp) C' (up (drops (own'.map (·.2)) Γ1) x) a (t x) fun y Γ2 r2 => r2 = some y ∧ Wk C' Γ2 (up (drops (own'.map (·.2)) Γ1) x)) ∧
      (∀ (C' : Ct) sh H Cc cl fp x, EX (bx X scope sh H Cc cl fp) C' (up (drops (own'.map (·.2)) Γ1) x) elt d (f x) fun y Γ2 r2 => r2 = some y ∧ Wk C' Γ2 (up (drops (own'.map (·.2)) Γ1) x)))
    (hws : ∀ i ∈ ws, i ∈ own'.map (·.2) := by decide) (hs : ∀ x, foldedSetIterable e X.env x = pure x := by intro _; rfl) : LC X C Γ elt tg e [a] scope d r J := by
  refine lc_G (S := Unit) ok (ei_imp h fun xs Γ1 r1 j => ?_) hg hws hs
  obtain ⟨t, f, k, e1, hk, ht, hb⟩ := j
  have idm : drops (own'.map (·.2)) (drops (own'.map (·.2)) Γ1) = drops (own'.map (·.2)) Γ1 := drops_idem _ _ _ fun _ h => h
  refine ⟨fun _ => drops (own'.map (·.2)) Γ1, fun x s => t x >>= fun b => some (b, s), fun x s => f x >>= fun y => some (y, s), (), fun z => k z.1, ?_, ?_, fun _ => idm, fun z => hk z.1, fun C' sh H Cc cl fp x s => ?_, fun C' sh H Cc cl fp x s => ?_⟩
  · rw [e1, lcG_flt]
    cases fltR t f xs <;> rfl
  · rw [idm]; exact wk_drops' _
  · refine eq_one (.mk fun z σ W H' Q sat hr kk => ?_)
    obtain ⟨y, e2, e3⟩ := bind_some hr
    refine (ht C' sh H Cc cl fp x).run y σ W H' Q sat e2 fun y' Γ2 r2 W2 H2 j2 hr2 s2 w2 => ?_
    obtain ⟨e4, wk⟩ := j2
    rw [hr2] at e4; cases e4
    exact kk y Γ2 (some (y, s)) W2 H2 ⟨s, rfl, wk⟩ e3 s2 w2
  · refine .mk fun z σ W H' Q sat hr kk => ?_
    obtain ⟨y, e2, e3⟩ := bind_some hr
    refine (hb C' sh H Cc cl fp x).run y σ W H' Q sat e2 fun y' Γ2 r2 W2 H2 v j2 hr2 s2 w2 q2 => ?_
    obtain ⟨e4, wk⟩ := j2
    rw [hr2] at e4; cases e4
    refine kk y Γ2 (some (y, s)) W2 H2 v ⟨s, rfl, ?_⟩ e3 s2 w2 q2
    have q := wk_drops' (C := C') (own'.map (·.2)) (Γ := up (drops (own'.map (·.2)) Γ1) x)
    rw [show drops (own'.map (·.2)) (up (drops (own'.map (·.2)) Γ1) x) = drops (own'.map (·.2)) Γ1 from ((hg C' sh H Cc cl fp).dr _ x _ hws).trans idm] at q
    exact wk.trans q
/-- [f x for x in xs], a state handed on -/
theorem lc_mapS {S : Type} {c : Cod X.K α} {d : Cod X.K β} {ws : List Nat} {up : En X.K → α → En X.K} {J : List β → En X.K → Option ρ → Prop} (ok : BlkOk X.N X.env.scope scope own')
    (hg : ∀ (C' : Ct) sh H Cc cl fp, AG (bx X scope sh H Cc cl fp) C' tg c ws up)
    (h : EI X C Γ tg e c r fun xs Γ1 r1 => ∃ (Γs : S → En X.K), ∃ f s0 k, r1 = mapS f xs s0 >>= k ∧ Wk C Γ1 (Γs s0) ∧ (∀ s, drops (own'.map (·.2)) (Γs s) = Γs s) ∧ (∀ ys, J ys.1 (Γs ys.2) (k ys)) ∧
      (∀ (C' : Ct) sh H Cc cl fp x s, EX (bx X scope sh H Cc cl fp) C' (up (Γs s) x) elt d (f x s) fun y Γ2 r2 => ∃ s2, r2 = some (y, s2) ∧ Wk C' Γ2 (Γs s2)))
    (hws : ∀ i ∈ ws, i ∈ own'.map (·.2) := by decide) (hs : ∀ x, foldedSetIterable e X.env x = pure x := by intro _; rfl) : LC X C Γ elt tg e [] scope d r J := by
  refine lc_G (S := S) ok (ei_imp h fun xs Γ1 r1 j => ?_) hg hws hs
  obtain ⟨Γs, f, s0, k, e1, g0, hdr, hk, hb⟩ := j
  refine ⟨Γs, fun _ s => some (true, s), f, s0, k, ?_, ?_, hdr, hk, fun C' sh H Cc cl fp x s => eq_nil ⟨s, rfl, wk_refl⟩, hb⟩
  · rw [e1, lcG_mapS]
  · rw [hdr]; exact g0

/-! a list that a name owns, by its methods -/
def MtO {δ : Type} (X : Cx) (id : String) (t : TC X.K α) (c : Cod X.K β) (d : Cod X.K δ) (g : List β → α → Option (δ × List β)) : Prop :=
  ∃ rr : V → List V → Hp → VK → Prop, MtM X id rr ∧ ∀ W H l vs ws ys x z (Q : VK), Same W H → H l = some (.lst vs) → Row c W vs ys → t.rp W ws x → g ys x = some z →
    (∀ w vs', d.rp W w z.1 → Row c W vs' z.2 → Q w (upd H l (.lst vs'))) → rr (.ref l) ws H Q
theorem Sat.changed {σ : L2.St} {W H : Hp} {i : Nat} {c : Cod X.K α} {ys zs : List α} {l : Addr} {vs' : List V} (s : Sat C Γ σ W H) (hi : Γ[i]? = some (.ow (lstC c) ys)) (e : σ[i]? = some (some (.ref l))) (h : Row c W vs' zs) :
    Sat C (Γ.set i (.ow (lstC c) zs)) σ W (upd H l (.lst vs')) := by
  obtain ⟨a, o, e1, e2, e3, e4, e5⟩ := s.sl i _ hi
  rw [e] at e1
  have ea := Option.some.inj (show some (V.ref l) = some (V.ref a) from e1)
  injection ea with ea
  subst ea
  exact s.turn hi e (Same.refl _) (fun b u q => by rw [upd_ne (ne_of_none q e2)]; exact s.sub b u q) (fun _ _ q => q) (fun b u hb q => by rw [upd_ne hb]; exact q) upd_same ⟨vs', rfl, h⟩
theorem ex_own {δ : Type} {t : TC X.K α} {c : Cod X.K β} {d : Cod X.K δ} {g : List β → α → Option (δ × List β)} {J : δ → En X.K → Option ρ → Prop} {n m : Str} {id : String} {ys : List β} (i : Nat) (o : MtO X id t c d g)
    (slot : Slot "list" m id) (hty : typeOf (.builtin id) = pure (.type "method_descriptor"))
    (h : EA X C Γ (e :: es) t r fun x Γ1 r1 => Γ1[i]? = some (.ow (lstC c) ys) ∧ ∃ k, r1 = g ys x >>= k ∧ ∀ z, J z.1 (Γ1.set i (.ow (lstC c) z.2)) (k z))
    (hN : X.N[i]? = some n := by rfl) (hΓ : Γ[i]? = some (.ow (lstC c) ys) := by rfl) (hv : Vis X.env.scope n := by first | exact Or.inl rfl | exact Or.inr (Or.inl rfl) | exact Or.inr (Or.inr rfl)) (hd : (n == ("__debug__" : Str)) = false := by decide) (hcd : (n == ("__classdict__" : Str)) = false := by decide)
    (hbase : attributeBase (.Name n p) m X.env (eval (.Name n p) X.env) = eval (.Name n p) X.env := by rfl)
    (hfew : ((backTo cpos (starEach (e :: es) X.env)).all (fun x => !x.1) && (backToKw cpos (keywordEach [] X.env)).all (fun x => x.1.isSome)
      && decide ((e :: es).length + ([] : List Keyword).length + (if ([] : List Keyword).isEmpty then 0 else 1) < 30)) = true := by rfl)
    (hline : (apos.endLine == cpos.line) = true := by rfl) (hs : starEach (e :: es) X.env = (false, eval e X.env) :: starEach es X.env := by rfl) (hplain : (backTo cpos (starEach es X.env)).any (·.1) = false := by rfl) :
    EX X C Γ (.Call (.Attribute (.Name n p) m apos) (e :: es) [] cpos) d r J := .mk fun z σ W H Q s hr kk => by
  obtain ⟨rr, hm, hf⟩ := o
  refine w_pe (pe_bm PySem.F.plainAttrs_list slot hty hm (pe_var hN hv hd hcd) pa_w hbase hfew hline hs hplain) ?_
  obtain ⟨ad, o, e1, e4, vs, rfl, row⟩ := s.seen hΓ
  refine ⟨_, e1, .inl ⟨rfl, vs, SqL.of e4⟩, h z σ W H _ s hr fun x Γ1 r1 W1 H1 ws j1 hr1 s1 w1 q1 => ?_⟩
  obtain ⟨g1, k2, e2, j2⟩ := j1
  rw [e2] at hr1
  obtain ⟨t2, et, ht⟩ := bind_some hr1
  obtain ⟨ad', o', f1, f4, vs', rfl, row'⟩ := s1.seen g1
  rw [e1] at f1; cases f1
  refine hf W1 H1 ad vs' ws ys x t2 _ s1.sub f4 row' q1 et fun w vs2 q2 row2 => ?_
  exact kk t2.1 _ _ W1 _ w (j2 t2) ht (s1.changed g1 e1 row2) w1 q2
theorem ex_own0 {δ : Type} {c : Cod X.K β} {d : Cod X.K δ} {g : List β → Unit → Option (δ × List β)} {J : δ → En X.K → Option ρ → Prop} {n m : Str} {id : String} {ys : List β} (i : Nat) (o : MtO X id tc0 c d g)
    (slot : Slot "list" m id) (hty : typeOf (.builtin id) = pure (.type "method_descriptor"))
    (h : ∃ k, r = g ys () >>= k ∧ ∀ z, J z.1 (Γ.set i (.ow (lstC c) z.2)) (k z))
    (hN : X.N[i]? = some n := by rfl) (hΓ : Γ[i]? = some (.ow (lstC c) ys) := by rfl) (hv : Vis X.env.scope n := by first | exact Or.inl rfl | exact Or.inr (Or.inl rfl) | exact Or.inr (Or.inr rfl)) (hd : (n == ("__debug__" : Str)) = false := by decide) (hcd : (n == ("__classdict__" : Str)) = false := by decide)
    (hbase : attributeBase (.Name n p) m X.env (eval (.Name n p) X.env) = eval (.Name n p) X.env := by rfl) (hline : (apos.endLine == cpos.line) = true := by rfl) :
    EX X C Γ (.Call (.Attribute (.Name n p) m apos) [] [] cpos) d r J := .mk fun z σ W H Q s hr kk => by
  obtain ⟨rr, hm, hf⟩ := o
  refine w_pe (pe_bm0 PySem.F.plainAttrs_list slot hty hm (pe_var hN hv hd hcd) hbase hline) ?_
  obtain ⟨ad, o, e1, e4, vs, rfl, row⟩ := s.seen hΓ
  obtain ⟨k2, e2, j2⟩ := h
  rw [e2] at hr
  obtain ⟨t2, et, ht⟩ := bind_some hr
  refine ⟨_, e1, .inl ⟨rfl, vs, SqL.of e4⟩, hf W H ad vs [] ys () t2 _ s.sub e4 row rfl et fun w vs2 q2 row2 => ?_⟩
  exact kk t2.1 _ _ W _ w (j2 t2) ht (s.changed hΓ e1 row2) (Same.refl _) q2
def pushR (ys : List β) (x : β) : Option (Unit × List β) := if ys.length < 16000000 then some ((), ys ++ [x]) else none
theorem m_append {c : Cod X.K β} : MtO X "list.append" (tc1 c) c cNon pushR := ⟨_, mt_append, fun W H l vs ws ys x z Q sb hl row q1 e k => by
  obtain ⟨v, rfl, q⟩ := q1
  unfold pushR at e
  split at e
  · rename_i hc
    cases e
    exact ⟨l, vs, v, rfl, rfl, hl, by rw [row.length]; exact Nat.lt_trans hc (by decide), k _ _ rfl (row.append (.cons q .nil))⟩
  · cases e⟩
def extR (ys zs : List β) : Option (Unit × List β) := if ys.length + zs.length ≤ 16000000 then some ((), ys ++ zs) else none
theorem m_extend {c : Cod X.K β} : MtO X "list.extend" (tc1 (cLst c)) c cNon extR := ⟨_, mt_extend, fun W H l vs ws ys x z Q sb hl row q1 e k => by
  obtain ⟨v, rfl, ad, us, rfl, h2, row2⟩ := q1
  unfold extR at e
  split at e
  · rename_i hc
    cases e
    exact ⟨l, ad, vs, us, rfl, rfl, hl, sb _ _ h2, by rw [row.length, row2.length]; exact Nat.le_trans hc (by decide), k _ _ rfl (row.append row2)⟩
  · cases e⟩
def popR (ys : List β) (i : Int) : Option (β × List β) := (ixN ys.length i).bind fun j => (ys[j]?).map fun x => (x, ys.eraseIdx j)
theorem m_popAt {c : Cod X.K β} : MtO X "list.pop" (tc1 cInt) c c fun ys i => if ys.length ≤ 16777216 then popR ys i else none := ⟨_, mt_popAt, fun W H l vs ws ys x z Q sb hl row q1 e k => by
  obtain ⟨v, rfl, q⟩ := q1
  cases q
  have e : (if ys.length ≤ 16777216 then popR ys x else none) = some z := e
  split at e
  · rename_i hl2
    unfold popR at e
    cases hj : ixN ys.length x with
    | none => rw [hj] at e; cases e
    | some j =>
      rw [hj] at e
      have e : (ys[j]?).map (fun x => (x, ys.eraseIdx j)) = some z := e
      obtain ⟨y, hy, ez⟩ := Option.map_eq_some_iff.mp e
      subst ez
      obtain ⟨w, h1, h2⟩ := row.get hy
      obtain ⟨q1, q2, q3, q4⟩ := ixN_seq hj
      exact ⟨l, vs, x, j, w, rfl, rfl, hl, by omega, by omega, by rw [row.length]; exact q1, h1, k _ _ h2 (row.erase j)⟩
  · cases e⟩
def popL (ys : List β) : Unit → Option (β × List β) := fun _ => (ys[ys.length - 1]?).map fun x => (x, ys.dropLast)
theorem Row.dropLast {K : Frag} {c : Cod K α} {H : Hp} {vs : List V} {xs : List α} (h : Row c H vs xs) : Row c H vs.dropLast xs.dropLast := by
  rw [List.dropLast_eq_take, List.dropLast_eq_take, h.length]
  exact h.take _
theorem m_pop {c : Cod X.K β} : MtO X "list.pop" tc0 c c popL := ⟨_, mt_pop, fun W H l vs ws ys x z Q sb hl row q1 e k => by
  cases q1
  obtain ⟨y, hy, ez⟩ := Option.map_eq_some_iff.mp e
  subst ez
  obtain ⟨w, h1, h2⟩ := row.get hy
  exact ⟨l, vs, w, rfl, rfl, hl, by rw [row.length]; exact h1, k _ _ h2 row.dropLast⟩⟩
/-- xs[i] = v, xs owned -/
def setR (ys : List β) (i : Int) (x : β) : Option (List β) := (ixN ys.length i).map fun j => ys.set j x
theorem gs_setI {ρ' : Type} {r : Option β} {T : Go X.K ρ' β} {c : Cod X.K α} {n : Str} (i : Nat)
    (h : EX X C Γ e c r fun x Γ1 r1 => (∃ ys, Γ1[i]? = some (.ow (lstC c) ys)) ∧ EX X C Γ1 b cInt r1 fun j Γ2 r2 => ∃ ys, Γ2[i]? = some (.ow (lstC c) ys) ∧ ∃ k, r2 = setR ys j x >>= k ∧ ∀ zs, T.nx (Γ2.set i (.ow (lstC c) zs)) (k zs))
    (hN : X.N[i]? = some n := by rfl) (hv : Vis X.env.scope n := by first | exact Or.inl rfl | exact Or.inr (Or.inl rfl) | exact Or.inr (Or.inr rfl)) (hd : (n == ("__debug__" : Str)) = false := by decide) (hcd : (n == ("__classdict__" : Str)) = false := by decide)
    (ha : ∀ v, assign (.Subscript (.Name n p) b p2) X.env v = (do
      let ov ← holding [v] (eval (.Name n p) X.env)
      let iv ← holding [v, ov] (eval b X.env)
      standAt p2
      holding [v, ov, iv] (setItem ov iv v)
      release [v, ov, iv] []) := by intro _; rfl)
    (hs : swapsWithSole [.Subscript (.Name n p) b p2] e pos.line X.env = pure false := by rfl) (hw : swappedStores [.Subscript (.Name n p) b p2] e X.env = pure none := by rfl)
    (h1 : (assignEach [.Subscript (.Name n p) b p2] X.env).map (·.2) = [assign (.Subscript (.Name n p) b p2) X.env] := by rfl) :
    GK X C (wpS X (.Assign [.Subscript (.Name n p) b p2] e pos)) Γ r T := GK.mk fun z σ W H D s hr kn kb kc kr => by
  refine w_ps (ps_asg pe_w (pg_sub (pe_var hN hv hd hcd) pe_w set_list ha) hs hw h1) (h z σ W H _ s hr fun x Γ1 r1 W1 H1 v j1 hr1 s1 w1 q1 => ?_)
  obtain ⟨⟨ys0, g1⟩, j1⟩ := j1
  obtain ⟨ad, o, e1, e4, vs, rfl, row⟩ := s1.seen g1
  refine ⟨_, e1, j1 z σ W1 H1 _ s1 hr1 fun jj Γ2 r2 W2 H2 v2 j2 hr2 s2 w2 q2 => ?_⟩
  obtain ⟨ys, g2, k2, e2, j2⟩ := j2
  rw [e2] at hr2
  obtain ⟨zs, et, ht⟩ := bind_some hr2
  obtain ⟨ad', o', f1, f4, vs', rfl, row'⟩ := s2.seen g2
  rw [e1] at f1; cases f1
  obtain ⟨jn, hj, ez⟩ := Option.map_eq_some_iff.mp et
  subst ez
  cases q2
  exact ⟨ad, vs', jj, jn, rfl, rfl, f4, by rw [row'.length]; exact hj, kn _ _ σ W2 _ (j2 _) ht (s2.changed g2 e1 (row'.set (c.mono w2 q1) jn)) (w1.trans w2)⟩

/-! slices, sums of tuples, being in -/
def sliceO (n : Nat) (lo hi : Option Int) : Nat × Nat := (HT.sIx n 0 lo, HT.sIx n n hi - HT.sIx n 0 lo)
def cutR (xs : List α) (lo hi : Option Int) : List α := (xs.drop (HT.sIx xs.length 0 lo)).take (HT.sIx xs.length xs.length hi - HT.sIx xs.length 0 lo)
theorem Row.cut {K : Frag} {c : Cod K α} {H : Hp} {vs : List V} {xs : List α} (h : Row c H vs xs) (lo hi : Option Int) : Row c H (cutV vs lo hi) (cutR xs lo hi) := by
  unfold cutV cutR
  rw [h.length]
  exact (h.drop _).take _
end
def wpo (X : Cx) (o : Option Expr) : TO := fun σ H Q => ∀ pins s, Inv X pins σ H s → wpAny (model X.prog X.w) X.A (evalPart o X.env) (fun u s' => ∃ o H', Inv X pins σ H' s' ∧ IsPart u o ∧ Q o H') X.xe s
section
variable {X : Cx} {C : Ct} {ρ α β γ : Type} {Γ : En X.K} {tg elt e a b : Expr} {es : List Expr} {r : Option ρ} {pos p p2 p3 apos cpos : Pos} {lo hi o : Option Expr}
theorem po_w : PO X o (wpo X o) := ⟨fun pins s _ _ _ I h => h pins s I⟩
/-- an optional part of a slice -/
def EO (X : Cx) (C : Ct) {ρ : Type} (Γ : En X.K) (o : Option Expr) (r : Option ρ) (J : Option Int → En X.K → Option ρ → Prop) : Prop :=
  ∀ (z : ρ) σ W H (Q : Option Int → Hp → Prop), Sat C Γ σ W H → r = some z →
    (∀ x Γ' r' W' H', J x Γ' r' → r' = some z → Sat C Γ' σ W' H' → Same W W' → Q x H') → wpo X o σ H Q
theorem eo_none {J : Option Int → En X.K → Option ρ → Prop} (h : J none Γ r) : EO X C Γ none r J := fun z σ W H Q s hr k pins sh I => po_none.run pins sh σ H Q I (k none Γ r W H h hr s (Same.refl _))
theorem eo_some {J : Option Int → En X.K → Option ρ → Prop} (h : EX X C Γ e cInt r fun i Γ1 r1 => J (some i) Γ1 r1) : EO X C Γ (some e) r J := fun z σ W H Q s hr k pins sh I =>
  (po_some pe_w).run pins sh σ H Q I (h z σ W H _ s hr fun i Γ1 r1 W1 H1 v j1 hr1 s1 w1 q1 => ⟨i, q1, k _ Γ1 r1 W1 H1 j1 hr1 s1 w1⟩)
theorem ex_slS {c : Cod X.K α} {J : List α → En X.K → Option ρ → Prop} (h : EX X C Γ e (cSeq c) r fun x Γ1 r1 => EO X C Γ1 lo r1 fun l Γ2 r2 => EO X C Γ2 hi r2 fun u Γ3 r3 => J (cutR x l u) Γ3 r3) :
    EX X C Γ (.Subscript e (.Slice lo hi none p2) pos) (cSeq c) r J := .mk fun z σ W H Q s hr k =>
  w_pe (pe_slice sl_tupA pe_w po_w po_w) (h z σ W H _ s hr fun x Γ1 r1 W1 H1 v j1 hr1 s1 w1 q1 => j1 z σ W1 H1 _ s1 hr1 fun l Γ2 r2 W2 H2 j2 hr2 s2 w2 => j2 z σ W2 H2 _ s2 hr2 fun u Γ3 r3 W3 H3 j3 hr3 s3 w3 => by
    obtain ⟨ad, vs, rfl, h2, h3⟩ := q1
    have h2' := Same.tup w3 (Same.tup w2 h2)
    have row := ((h3.mono w2).mono w3).cut l u
    have ww := (w1.trans w2).trans w3
    refine ⟨ad, vs, rfl, Same.tup s3.sub h2', fun hw => ?_, fun hw pp hp => ?_⟩
    · have e : cutV vs l u = vs := by unfold cutV; rw [hw.1, hw.2]; simp
      rw [e] at row
      exact k _ Γ3 r3 W3 H3 _ j3 hr3 s3 ww ⟨ad, vs, rfl, h2', row⟩
    · have G := Grow.new (o := .tup (cutV vs l u)) s3.sub hp
      exact k _ Γ3 r3 _ _ _ j3 hr3 (s3.grow G) (ww.trans G.w) ⟨pp, _, rfl, SqT.of upd_same, row.mono G.w⟩)
theorem ef_slL {c : Cod X.K α} {J : List α → En X.K → Option ρ → Prop} (h : EX X C Γ e (cLst c) r fun x Γ1 r1 => EO X C Γ1 lo r1 fun l Γ2 r2 => EO X C Γ2 hi r2 fun u Γ3 r3 => J (cutR x l u) Γ3 r3) :
    EF X C Γ (.Subscript e (.Slice lo hi none p2) pos) (lstC c) r J := .mk fun z σ W H Q s hr k =>
  w_pe (pe_slice sl_list pe_w po_w po_w) (h z σ W H _ s hr fun x Γ1 r1 W1 H1 v j1 hr1 s1 w1 q1 => j1 z σ W1 H1 _ s1 hr1 fun l Γ2 r2 W2 H2 j2 hr2 s2 w2 => j2 z σ W2 H2 _ s2 hr2 fun u Γ3 r3 W3 H3 j3 hr3 s3 w3 => by
    obtain ⟨ad, vs, rfl, h2, h3⟩ := q1
    have row := ((h3.mono w2).mono w3).cut l u
    have ww := (w1.trans w2).trans w3
    refine ⟨ad, vs, rfl, SqL.of (s3.sub _ _ (w3 _ _ (w2 _ _ h2))), fun pp hp => ?_⟩
    obtain ⟨s4, wp, cp, ap, la⟩ := s3.fresh (o := .lst (cutV vs l u)) hp
    exact k _ Γ3 r3 W3 _ pp _ j3 hr3 s4 ww wp cp upd_same ⟨_, rfl, row⟩ ap la)
def catR (x y : List α) : Option (List α) := if x.length + y.length ≤ 16000000 then some (x ++ y) else none
theorem o_catS {c : Cod X.K α} : Op2 X (binaryOp .Add) (cSeq c) (cSeq c) (cSeq c) catR := ⟨_, op_catA, fun W H x y v u z Q sb h1 h2 e k => by
  obtain ⟨ad, vs, rfl, a2, a3⟩ := h1
  obtain ⟨bd, ws, rfl, b2, b3⟩ := h2
  unfold catR at e
  split at e
  · rename_i hc
    cases e
    refine ⟨ad, bd, vs, ws, rfl, rfl, Same.tup sb a2, Same.tup sb b2, by rw [a3.length, b3.length]; exact Nat.le_trans hc (by decide), fun hx => ?_, fun _ hy => ?_, fun _ _ pp hp => ?_⟩
    · subst hx; cases a3; exact k _ W H (Grow.refl sb) ⟨bd, ws, rfl, b2, b3⟩
    · subst hy; cases b3; rw [List.append_nil] at k; exact k _ W H (Grow.refl sb) ⟨ad, vs, rfl, a2, a3⟩
    · have G := Grow.new (o := .tup (vs ++ ws)) sb hp
      exact k _ _ _ G ⟨pp, _, rfl, SqT.of upd_same, (a3.append b3).mono G.w⟩
  · cases e⟩
theorem o_catL {c : Cod X.K α} : Op2 X (binaryOp .Add) (cLst c) (cLst c) (cLst c) catR := ⟨_, op_cat, fun W H x y v u z Q sb h1 h2 e k => by
  obtain ⟨ad, vs, rfl, a2, a3⟩ := h1
  obtain ⟨bd, ws, rfl, b2, b3⟩ := h2
  unfold catR at e
  split at e
  · rename_i hc
    cases e
    refine ⟨ad, bd, vs, ws, rfl, rfl, sb _ _ a2, sb _ _ b2, by rw [a3.length, b3.length]; exact Nat.le_trans hc (by decide), fun pp hp => ?_⟩
    have G := Grow.new (o := .lst (vs ++ ws)) sb hp
    exact k _ _ _ G ⟨pp, _, rfl, upd_same, (a3.append b3).mono G.w⟩
  · cases e⟩
/-- values that == tells apart as Lean's = does -/
structure Flat {K : Frag} {α : Type} [DecidableEq α] (c : Cod K α) : Prop where
  fl : ∀ {H v x}, c.rp H v x → flatV v = true
  eq : ∀ {H H' v u x y}, c.rp H v x → c.rp H' u y → eqV v u = decide (x = y)
theorem flatI {K : Frag} : Flat (cInt (K := K)) := ⟨fun h => by cases h; rfl, fun h h' => by cases h; cases h'; simp [eqV, Bool.beq_eq_decide_eq]⟩
theorem flatS {K : Frag} : Flat (cStr (K := K)) := ⟨fun h => by cases h; rfl, fun h h' => by cases h; cases h'; simp [eqV, Bool.beq_eq_decide_eq]⟩
theorem flatB {K : Frag} : Flat (cBool (K := K)) := ⟨fun h => by cases h; rfl, fun h h' => by cases h; cases h'; simp [eqV, Bool.beq_eq_decide_eq]⟩
theorem Row.flat {K : Frag} [DecidableEq α] {c : Cod K α} {H : Hp} (f : Flat c) : ∀ {vs : List V} {xs : List α}, Row c H vs xs → vs.all flatV = true
  | _, _, .nil => rfl
  | _, _, .cons h t => by rw [List.all_cons, f.fl h, Row.flat f t]; rfl
theorem Row.inV {K : Frag} [DecidableEq α] {c : Cod K α} {H H' : Hp} {v : V} {x : α} (f : Flat c) (hx : c.rp H' v x) : ∀ {vs : List V} {xs : List α}, Row c H vs xs → L2.inV v vs = decide (x ∈ xs)
  | _, _, .nil => by simp [L2.inV]
  | _, _, .cons (x := y) h t => by
    have ih := Row.inV f hx t
    unfold L2.inV at ih ⊢
    rw [List.any_cons, ih, f.eq h hx]
    by_cases e : y = x
    · simp [e]
    · have : ¬ x = y := fun z => e z.symm
      simp [e, this]
theorem o_inS [DecidableEq α] {c : Cod X.K α} (f : Flat c) : Op2 X (compareOp .In) c (cSeq c) cBool fun x y => some (decide (x ∈ y)) := ⟨_, op_in_seq, fun W H x y v u z Q sb h1 h2 e k => by
  obtain ⟨ad, vs, rfl, a2, a3⟩ := h2; cases e
  exact ⟨ad, vs, rfl, .inr (Same.tup sb a2), f.fl h1, a3.flat f, by rw [a3.inV f h1]; exact k _ W H (Grow.refl sb) rfl⟩⟩
theorem o_inL [DecidableEq α] {c : Cod X.K α} (f : Flat c) : Op2 X (compareOp .In) c (cLst c) cBool fun x y => some (decide (x ∈ y)) := ⟨_, op_in_seq, fun W H x y v u z Q sb h1 h2 e k => by
  obtain ⟨ad, vs, rfl, a2, a3⟩ := h2; cases e
  exact ⟨ad, vs, rfl, .inl (SqL.of (sb _ _ a2)), f.fl h1, a3.flat f, by rw [a3.inV f h1]; exact k _ W H (Grow.refl sb) rfl⟩⟩
theorem o_niS [DecidableEq α] {c : Cod X.K α} (f : Flat c) : Op2 X (compareOp .NotIn) c (cSeq c) cBool fun x y => some (!decide (x ∈ y)) := ⟨_, op_notIn_seq, fun W H x y v u z Q sb h1 h2 e k => by
  obtain ⟨ad, vs, rfl, a2, a3⟩ := h2; cases e
  exact ⟨ad, vs, rfl, .inr (Same.tup sb a2), f.fl h1, a3.flat f, by rw [a3.inV f h1]; exact k _ W H (Grow.refl sb) rfl⟩⟩
theorem o_niL [DecidableEq α] {c : Cod X.K α} (f : Flat c) : Op2 X (compareOp .NotIn) c (cLst c) cBool fun x y => some (!decide (x ∈ y)) := ⟨_, op_notIn_seq, fun W H x y v u z Q sb h1 h2 e k => by
  obtain ⟨ad, vs, rfl, a2, a3⟩ := h2; cases e
  exact ⟨ad, vs, rfl, .inl (SqL.of (sb _ _ a2)), f.fl h1, a3.flat f, by rw [a3.inV f h1]; exact k _ W H (Grow.refl sb) rfl⟩⟩
/-- a constant of the module -/
theorem ex_glob {c : Cod X.K α} {x : α} {n : Str} {v : V} {u : Value} {J : α → En X.K → Option ρ → Prop} (hm : X.mg n = some u) (rv : RelV v u) (hc : ∀ W, c.rp W v x) (hJ : J x Γ r) (hg : Gl X n := by rfl) (hd : (n == ("__debug__" : Str)) = false := by decide) :
    EX X C Γ (.Name n p) c r J := .mk fun z σ W H Q s hr k => w_pe (pe_glob hg hm rv hd) (k x Γ r W H v hJ hr s (Same.refl _) (hc W))
/-- xs.index(x) -/
def idxR [DecidableEq α] (xs : List α) (x : α) : Option Int := if x ∈ xs then some ((xs.idxOf x : Nat) : Int) else none
theorem idxOf_spec [DecidableEq α] {x : α} : ∀ {xs : List α}, x ∈ xs → xs[xs.idxOf x]? = some x ∧ ∀ m, m < xs.idxOf x → xs[m]? ≠ some x
  | [], h => by cases h
  | y :: ys, h => by
    by_cases e : y = x
    · subst e; simp
    · have hm : x ∈ ys := (List.mem_cons.mp h).resolve_left fun z => e z.symm
      obtain ⟨h1, h2⟩ := idxOf_spec hm
      have eb : (y == x) = false := by simp [e]
      rw [List.idxOf_cons, eb]
      refine ⟨by simpa using h1, fun m hm => ?_⟩
      cases m with
      | zero => simp [e]
      | succ m => simpa using h2 m (by simpa using hm)
theorem ex_idxL [DecidableEq α] {c : Cod X.K α} (f : Flat c) {J : Int → En X.K → Option ρ → Prop}
    (h : EX X C Γ a (cLst c) r fun xs Γ1 r1 => EX X C Γ1 e c r1 fun x Γ2 r2 => ∃ k, r2 = idxR xs x >>= k ∧ ∀ z, J z Γ2 (k z))
    (hbase : attributeBase a "index" X.env (eval a X.env) = eval a X.env := by rfl)
    (hfew : ((backTo cpos (starEach [e] X.env)).all (fun x => !x.1) && (backToKw cpos (keywordEach [] X.env)).all (fun x => x.1.isSome)
      && decide ([e].length + ([] : List Keyword).length + (if ([] : List Keyword).isEmpty then 0 else 1) < 30)) = true := by rfl)
    (hline : (apos.endLine == cpos.line) = true := by rfl) (hs : starEach [e] X.env = (false, eval e X.env) :: starEach [] X.env := by rfl) (hplain : (backTo cpos (starEach [] X.env)).any (·.1) = false := by rfl) :
    EX X C Γ (.Call (.Attribute a "index" apos) [e] [] cpos) cInt r J := .mk fun z σ W H Q s hr k =>
  w_pe (pe_bm PySem.F.plainAttrs_list PySem.F.slot_list_index PySem.F.type_list_index mt_index pe_w (pa_cons pe_w pa_nil hs) hbase hfew hline hs hplain) (h z σ W H _ s hr fun xs Γ1 r1 W1 H1 v j1 hr1 s1 w1 q1 => by
    obtain ⟨ad, vs, rfl, h2, h3⟩ := q1
    refine ⟨.inl ⟨rfl, vs, SqL.of (s1.sub _ _ h2)⟩, j1 z σ W1 H1 _ s1 hr1 fun x Γ2 r2 W2 H2 u j2 hr2 s2 w2 q2 => ?_⟩
    obtain ⟨k2, e2, j2⟩ := j2
    rw [e2] at hr2
    obtain ⟨t, et, ht⟩ := bind_some hr2
    unfold idxR at et
    split at et
    · rename_i hm
      cases et
      obtain ⟨g1, g2⟩ := idxOf_spec hm
      have row := h3.mono w2
      obtain ⟨zv, f1, f2⟩ := row.get g1
      refine ⟨ad, vs, u, xs.idxOf x, zv, rfl, rfl, SqL.of (s2.sub _ _ (w2 _ _ h2)), f.fl q2, row.flat f, f1, by rw [f.eq f2 q2]; simp, fun m z' hm hz => ?_, k _ Γ2 _ W2 H2 _ (j2 _) ht s2 (w1.trans w2) rfl⟩
      obtain ⟨y, y1, y2⟩ := row.get' hz
      rw [f.eq y2 q2]
      exact decide_eq_false fun ey => g2 m hm (by rw [y1, ey])
    · cases et)
/-- T.index(x), T a constant of the module, texts -/
theorem ex_idxK {ys : List Str} {n : Str} {ad : Addr} {o : Obj} {J : Int → En X.K → Option ρ → Prop} (hm : X.mg n = some (.ref ad)) (hk : ∀ W, SqT X.K W ad (ys.map V.str)) (ho : X.K.lookup ad = some o ∧ o.cls = .type "tuple" ∧ o.dict = none)
    (h : EX X C Γ e cStr r fun x Γ2 r2 => ∃ k, r2 = idxR ys x >>= k ∧ ∀ z, J z Γ2 (k z)) (hg : Gl X n := by rfl) (hd : (n == ("__debug__" : Str)) = false := by decide)
    (hbase : attributeBase (.Name n p) "index" X.env (eval (.Name n p) X.env) = eval (.Name n p) X.env := by rfl)
    (hfew : ((backTo cpos (starEach [e] X.env)).all (fun x => !x.1) && (backToKw cpos (keywordEach [] X.env)).all (fun x => x.1.isSome)
      && decide ([e].length + ([] : List Keyword).length + (if ([] : List Keyword).isEmpty then 0 else 1) < 30)) = true := by rfl)
    (hline : (apos.endLine == cpos.line) = true := by rfl) (hs : starEach [e] X.env = (false, eval e X.env) :: starEach [] X.env := by rfl) (hplain : (backTo cpos (starEach [] X.env)).any (·.1) = false := by rfl) :
    EX X C Γ (.Call (.Attribute (.Name n p) "index" apos) [e] [] cpos) cInt r J := .mk fun z σ W H Q s hr k =>
  w_pe (pe_bm PySem.F.plainAttrs_tuple PySem.F.slot_tuple_index PySem.F.type_tuple_index mt_tup_index (pe_glob (v := .ref ad) hg hm rfl hd) (pa_cons pe_w pa_nil hs) hbase hfew hline hs hplain)
    ⟨.inr (.inl ⟨rfl, o, ho⟩), h z σ W H _ s hr fun x Γ2 r2 W2 H2 u j2 hr2 s2 w2 q2 => by
    obtain ⟨k2, e2, j2⟩ := j2
    rw [e2] at hr2
    obtain ⟨t, et, ht⟩ := bind_some hr2
    unfold idxR at et
    split at et
    · rename_i hm
      cases et
      cases q2
      obtain ⟨g1, g2⟩ := idxOf_spec hm
      exact ⟨ad, ys, x, ys.idxOf x, rfl, rfl, hk H2, g1, g2, k _ Γ2 _ W2 H2 _ (j2 _) ht s2 w2 rfl⟩
    · cases et⟩
end
end Ty

set_option maxHeartbeats 4000000
namespace Ty
open PySem PySem.Spec PyProof.Rows L2

/-! ### defs -/
section
variable {K : Frag}
structure PEn {α : Type} (t : TC K α) (en : α → En K) : Prop where
  len : ∀ x, (en x).length = t.n
  ok : ∀ {W : Hp} {vs : List V} {x : α}, t.rp W vs x → ∀ (i : Nat) (e : Ent K), (en x)[i]? = some e → ∃ (γ : Type) (c : Cod K γ) (y : γ) (v : V), e = .im c y ∧ vs[i]? = some v ∧ c.rp W v y
theorem pen0 : PEn (K := K) tc0 fun _ => [] := ⟨fun _ => rfl, fun _ i e h => by simp at h⟩
theorem pen1 {α : Type} {c : Cod K α} : PEn (tc1 c) fun x => [.im c x] := ⟨fun _ => rfl, fun ⟨v, h, q⟩ i e he => by
  cases i with
  | zero => simp at he; exact ⟨_, c, _, v, he.symm, by rw [h]; rfl, q⟩
  | succ i => simp at he⟩
theorem penC {α β : Type} {c : Cod K α} {t : TC K β} {en : β → En K} (h : PEn t en) : PEn (tcC c t) fun x => .im c x.1 :: en x.2 := ⟨fun x => by simp [h.len, tcC], fun ⟨v, r, hv, q, q2⟩ i e he => by
  cases i with
  | zero => simp at he; exact ⟨_, c, _, v, he.symm, by rw [hv]; rfl, q⟩
  | succ i =>
    obtain ⟨γ, d, y, w, e1, e2, e3⟩ := h.ok q2 i e (by simpa using he)
    exact ⟨γ, d, y, w, e1, by rw [hv]; simpa using e2, e3⟩⟩
theorem start_get {N : List Str} {vs : List V} {i : Nat} {v : V} (h : vs[i]? = some v) : (start N vs)[i]? = some (some v) := by
  unfold L2.start
  have hi : i < vs.length := (List.getElem?_eq_some_iff.mp h).1
  rw [List.getElem?_append_left (by simpa using hi), List.getElem?_map, h]
  rfl
theorem start_sat {α : Type} {t : TC K α} {en : α → En K} {W H : Hp} {vs : List V} {x : α} {N : List Str} {m : Nat} (hp : PEn t en) (q : t.rp W vs x) (sb : Same W H) :
    Sat ⟨W, H, fun _ => False, none⟩ (en x ++ List.replicate m .no) (start N vs) W H := by
  have ent : ∀ (i : Nat) (e : Ent K), (en x ++ List.replicate m .no)[i]? = some e → e = .no ∨ ∃ (γ : Type) (c : Cod K γ) (y : γ) (v : V), e = .im c y ∧ vs[i]? = some v ∧ c.rp W v y := fun i e h => by
    by_cases hi : i < (en x).length
    · rw [List.getElem?_append_left hi] at h
      exact .inr (hp.ok q i e h)
    · rw [List.getElem?_append_right (by omega), List.getElem?_replicate] at h
      have he : e = .no := by split at h <;> simp_all
      exact .inl he
  have no : ∀ i, ¬ own (en x ++ List.replicate m .no) i := fun i ⟨e, h1, h2⟩ => by
    rcases ent i e h1 with rfl | ⟨γ, c, y, v, rfl, _⟩ <;> cases h2
  refine ⟨fun i e h => ?_, fun i j a _ hi => absurd hi (no i), sb, Same.refl _, fun i a h => (by cases h), fun a o h _ _ => h, fun _ h => h, fun _ _ h => h, fun a h => by rcases h with h | h; exact h.elim; cases h⟩
  rcases ent i e h with rfl | ⟨γ, c, y, v, rfl, h2, h3⟩
  · trivial
  · exact ⟨v, by rw [start_get h2]; rfl, h3⟩
theorem start_satL {α τ : Type} {t : TC K α} {en : α → En K} {ce : Cel K τ} {tp : τ} {W H : Hp} {a : Addr} {o : HO} {vs : List V} {x : α} {N : List Str} {m : Nat} (hp : PEn t en) (q : t.rp W vs x) (sb : Same W H) (wa : W a = none) (ha : H a = some o) (hc : ce.ct W o tp) :
    Sat ⟨W, H, fun _ => False, some a⟩ (.lp :: (en x ++ (List.replicate m .no ++ [.ln ce tp]))) (start N (.ref a :: vs)) W H := by
  have ent : ∀ (i : Nat) (e : Ent K), (Ent.lp :: (en x ++ (List.replicate m .no ++ [.ln ce tp])))[i]? = some e → e = .no ∨ (e = .lp ∧ i = 0) ∨ e = .ln ce tp ∨ ∃ (γ : Type) (c : Cod K γ) (y : γ) (v : V), e = .im c y ∧ (V.ref a :: vs)[i]? = some v ∧ c.rp W v y := fun i e h => by
    cases i with
    | zero => simp at h; exact .inr (.inl ⟨h.symm, rfl⟩)
    | succ i =>
      rw [List.getElem?_cons_succ] at h
      by_cases hi : i < (en x).length
      · rw [List.getElem?_append_left hi] at h
        obtain ⟨γ, c, y, v, e1, e2, e3⟩ := hp.ok q i e h
        exact .inr (.inr (.inr ⟨γ, c, y, v, e1, by simpa using e2, e3⟩))
      · rw [List.getElem?_append_right (by omega)] at h
        by_cases hj : i - (en x).length < m
        · rw [List.getElem?_append_left (by simpa using hj), List.getElem?_replicate] at h
          have he : e = .no := by split at h <;> simp_all
          exact .inl he
        · rw [List.getElem?_append_right (by simpa using hj)] at h
          have hz : e = .ln ce tp := by
            generalize i - (en x).length - (List.replicate m (Ent.no (K := K))).length = kk at h
            cases kk with
            | zero => simp at h; exact h.symm
            | succ kk => simp at h
          exact .inr (.inr (.inl hz))
  have no : ∀ i, ¬ own (Ent.lp :: (en x ++ (List.replicate m .no ++ [.ln ce tp]))) i := fun i ⟨e, h1, h2⟩ => by
    rcases ent i e h1 with rfl | ⟨rfl, _⟩ | rfl | ⟨γ, c, y, v, rfl, _⟩ <;> cases h2
  refine ⟨fun i e h => ?_, fun i j a _ hi => absurd hi (no i), sb, Same.refl _, fun i _ _ hi => absurd hi (no i), fun a o h _ _ => h, fun _ h => h, fun _ _ h => h, fun b h => ?_⟩
  · rcases ent i e h with rfl | ⟨rfl, rfl⟩ | rfl | ⟨γ, c, y, v, rfl, h2, h3⟩
    · trivial
    · exact ⟨a, rfl, by rw [start_get (N := N) (vs := .ref a :: vs) (i := 0) (v := .ref a) rfl]; rfl⟩
    · exact ⟨a, o, rfl, wa, ha, hc⟩
    · exact ⟨v, by rw [start_get h2]; rfl, h3⟩
  · rcases h with h | h
    · exact h.elim
    · cases h; rw [ha]; simp
end
/-- what a body is to come to: a value (None at its end, where fl says so) -/
def goTop {K : Frag} {β : Type} (c : Cod K β) (fl : β → Prop) : Go K β β := { R := fun W _ v x => c.rp W v x, ret := fun x => x, nx := fun _ r' => ∃ z, r' = some z ∧ fl z }
def goTopN {K : Frag} {β : Type} (C : Ct) (c : Cel K β) : Go K β β := { R := NewR C c, ret := fun x => x, nx := fun _ _ => False }
/-- a value, and what was lent -/
def RetL {K : Frag} {β τ : Type} (C : Ct) (c : Cod K β) (ce : Cel K τ) : Hp → Hp → V → β × τ → Prop := fun W H v x => c.rp W v x.1 ∧ ∃ a o, C.a = some a ∧ H a = some o ∧ ce.ct W o x.2
def RetNL {K : Frag} {β τ : Type} (C : Ct) (c : Cel K β) (ce : Cel K τ) : Hp → Hp → V → β × τ → Prop := fun W H v x => NewR C c W H v x.1 ∧ ∃ a o, C.a = some a ∧ H a = some o ∧ ce.ct W o x.2
def goTopL {K : Frag} {β τ : Type} (C : Ct) (c : Cod K β) (ce : Cel K τ) : Go K (β × τ) (β × τ) := { R := RetL C c ce, ret := fun x => x, nx := fun _ _ => False }
def goTopNL {K : Frag} {β τ : Type} (C : Ct) (c : Cel K β) (ce : Cel K τ) : Go K (β × τ) (β × τ) := { R := RetNL C c ce, ret := fun x => x, nx := fun _ _ => False }
/-- a def that changes what its first argument is -/
def spM {α β τ : Type} (K : Frag) (ce : Cel K τ) (t : TC K α) (f : τ → α → Option (β × τ)) (c : Cod K β) : Sp := fun vs H Q _ => ∃ W a o us tp x, vs = .ref a :: us ∧ Same W H ∧ W a = none ∧ H a = some o ∧ ce.ct W o tp ∧ t.rp W us x ∧ ∃ z, f tp x = some z ∧
  ∀ W' H' v o', Same W W' → Same W' H' → (∀ b u, b ≠ a → H b = some u → H' b = some u) → (∀ b, H b ≠ none → W b = none → W' b = none) → H' a = some o' → ce.ct W' o' z.2 → c.rp W' v z.1 → Q v H'
def spMN {α β τ : Type} (K : Frag) (ce : Cel K τ) (t : TC K α) (f : τ → α → Option (β × τ)) (c : Cel K β) : Sp := fun vs H Q _ => ∃ W a o us tp x, vs = .ref a :: us ∧ Same W H ∧ W a = none ∧ H a = some o ∧ ce.ct W o tp ∧ t.rp W us x ∧ ∃ z, f tp x = some z ∧
  ∀ W' H' p o2 o', Same W W' → Same W' H' → (∀ b u, b ≠ a → H b = some u → H' b = some u) → (∀ b, H b ≠ none → W b = none → W' b = none) → H' a = some o' → ce.ct W' o' z.2 → W' p = none → H p = none → H' p = some o2 → c.ct W' o2 z.1 → Q (.ref p) H'
section
variable {P : Program} {w : World} {K : Frag} {mg : Str → Option Value} {base : Heap} {nm qual : Str} {params : Arguments} {body : List Stmt} {scope : Scope} {fa : Addr} {fd : FuncData} {N ps : List Str} {k : Nat} {α β τ : Type}
/-- the context of a body -/
abbrev bX (P : Program) (w : World) (K : Frag) (mg : Str → Option Value) (base : Heap) (N : List Str) (qual : Str) (scope : Scope) (fa : Addr) (cdv : Value) (A : Around) (outer : List Env) (s : Shared) (H : Hp) (E : XK) : Cx := (cxOf CX0 P w K mg base N qual scope fa cdv A outer s H E).nox
theorem fn_top {t : TC K α} {en : α → En K} {f : α → Option β} {c : Cod K β} (fl : β → Prop) (hfl : ∀ z, fl z → ∀ W, c.rp W .non z) (F : FunD K nm qual params body scope [] [] fa fd) (S : FnScope N ps scope) (hp : PEn t en) (Γ0 : α → En K)
    (hb : ∀ cdv A outer s H E, Room k (A.deeper (envOfC qual scope s.heap.objs.size fa cdv)) → ∀ (C : Ct), (∀ a, ¬ C.B a) → ∀ x, GK (bX P w K mg base N qual scope fa cdv A outer s H E) C (wpB (bX P w K mg base N qual scope fa cdv A outer s H E) body) (Γ0 x) (f x) (goTop c fl))
    (hn : t.n = ps.length := by rfl) (hΓ : ∀ x, Γ0 x = en x ++ List.replicate (N.length - t.n) .no := by intro _; rfl) : FnOk P w K mg base CX0 (k + 1) fa fd ps (spP K t f c) := by
  refine F.ok S (fun vs H Q E h => ?_) fun cdv A outer s H vs Q E hr h => ⟨wpB (bX P w K mg base N qual scope fa cdv A outer s H E) body, PSs.nox pss_w, ?_⟩
  · obtain ⟨W, x, _, q, _⟩ := h
    rw [t.len q, hn]
  · obtain ⟨W, x, sb, q, z, hz, kk⟩ := h
    have s0 := start_sat (N := N) (m := N.length - t.n) hp q sb
    rw [← hΓ x] at s0
    have gr : ∀ {Γ' : En K} {σ' W' H'}, Sat ⟨W, H, fun _ => False, none⟩ Γ' σ' W' H' → Grow W H W' H' := fun s' => ⟨s'.old, fun a o h => s'.fr a o h (fun z => z) (fun z => nomatch z), s'.sub, s'.nw⟩
    refine (hb cdv A outer s H E hr ⟨W, H, fun _ => False, none⟩ (fun _ z => z) x).run z _ W H _ s0 hz (fun Γ' r' σ' W' H' j hr' s' _ => ?_) (fun _ _ _ _ _ j => j.elim) (fun _ _ _ _ _ j => j.elim) (fun y v Γ' σ' W' H' e s' _ q' => ?_)
    · obtain ⟨z', e1, e2⟩ := j
      rw [hr'] at e1; cases e1
      exact kk W' H' .non (gr s') (hfl z e2 W')
    · have e : y = z := e
      subst e
      exact kk W' H' v (gr s') q'
theorem fn_topN {t : TC K α} {en : α → En K} {f : α → Option β} {c : Cel K β} (F : FunD K nm qual params body scope [] [] fa fd) (S : FnScope N ps scope) (hp : PEn t en) (Γ0 : α → En K)
    (hb : ∀ cdv A outer s H E, Room k (A.deeper (envOfC qual scope s.heap.objs.size fa cdv)) → ∀ (C : Ct), (∀ a, ¬ C.B a) → ∀ x, GK (bX P w K mg base N qual scope fa cdv A outer s H E) C (wpB (bX P w K mg base N qual scope fa cdv A outer s H E) body) (Γ0 x) (f x) (goTopN C c))
    (hn : t.n = ps.length := by rfl) (hΓ : ∀ x, Γ0 x = en x ++ List.replicate (N.length - t.n) .no := by intro _; rfl) : FnOk P w K mg base CX0 (k + 1) fa fd ps (spN K t f c) := by
  refine F.ok S (fun vs H Q E h => ?_) fun cdv A outer s H vs Q E hr h => ⟨wpB (bX P w K mg base N qual scope fa cdv A outer s H E) body, PSs.nox pss_w, ?_⟩
  · obtain ⟨W, x, _, q, _⟩ := h
    rw [t.len q, hn]
  · obtain ⟨W, x, sb, q, z, hz, kk⟩ := h
    have s0 := start_sat (N := N) (m := N.length - t.n) hp q sb
    rw [← hΓ x] at s0
    have gr : ∀ {Γ' : En K} {σ' W' H'}, Sat ⟨W, H, fun _ => False, none⟩ Γ' σ' W' H' → Grow W H W' H' := fun s' => ⟨s'.old, fun a o h => s'.fr a o h (fun z => z) (fun z => nomatch z), s'.sub, s'.nw⟩
    refine (hb cdv A outer s H E hr ⟨W, H, fun _ => False, none⟩ (fun _ z => z) x).run z _ W H _ s0 hz (fun _ _ _ _ _ j => j.elim) (fun _ _ _ _ _ j => j.elim) (fun _ _ _ _ _ j => j.elim) (fun y v Γ' σ' W' H' e s' _ q' => ?_)
    have e : y = z := e
    subst e
    obtain ⟨p, o, rfl, h1, h2, h3, h4⟩ := q'
    exact kk W' H' p o (gr s') h1 h2 h3 h4
theorem fn_topL {t : TC K α} {en : α → En K} {ce : Cel K τ} {f : τ → α → Option (β × τ)} {c : Cod K β} (F : FunD K nm qual params body scope [] [] fa fd) (S : FnScope N ps scope) (hp : PEn t en) (Γ0 : τ → α → En K)
    (hb : ∀ cdv A outer s H E, Room k (A.deeper (envOfC qual scope s.heap.objs.size fa cdv)) → ∀ (C : Ct), (∀ a, ¬ C.B a) → ∀ tp x, GK (bX P w K mg base N qual scope fa cdv A outer s H E) C (wpB (bX P w K mg base N qual scope fa cdv A outer s H E) body) (Γ0 tp x) (f tp x) (goTopL C c ce))
    (hn : t.n + 1 = ps.length := by rfl) (hΓ : ∀ tp x, Γ0 tp x = .lp :: (en x ++ (List.replicate (N.length - (t.n + 1)) .no ++ [.ln ce tp])) := by intro _ _; rfl) : FnOk P w K mg base CX0 (k + 1) fa fd ps (spM K ce t f c) := by
  refine F.ok S (fun vs H Q E h => ?_) fun cdv A outer s H vs Q E hr h => ⟨wpB (bX P w K mg base N qual scope fa cdv A outer s H E) body, PSs.nox pss_w, ?_⟩
  · obtain ⟨W, a, o, us, tp, x, rfl, _, _, _, _, q, _⟩ := h
    rw [List.length_cons, t.len q, hn]
  · obtain ⟨W, a, o, us, tp, x, rfl, sb, wa, ha, hc, q, z, hz, kk⟩ := h
    have s0 := start_satL (N := N) (m := N.length - (t.n + 1)) hp q sb wa ha hc
    rw [← hΓ tp x] at s0
    refine (hb cdv A outer s H E hr ⟨W, H, fun _ => False, some a⟩ (fun _ z => z) tp x).run z _ W H _ s0 hz (fun _ _ _ _ _ j => j.elim) (fun _ _ _ _ _ j => j.elim) (fun _ _ _ _ _ j => j.elim) (fun y v Γ' σ' W' H' e s' _ q' => ?_)
    have e : y = z := e
    subst e
    obtain ⟨h1, a', o', h2, h3, h4⟩ := q'
    cases h2
    exact kk W' H' v o' s'.old s'.sub (fun b u hb h => s'.fr b u h (fun z => z) fun z => hb (Option.some.inj z).symm) s'.nw h3 h4 h1
theorem fn_topNL {t : TC K α} {en : α → En K} {ce : Cel K τ} {f : τ → α → Option (β × τ)} {c : Cel K β} (F : FunD K nm qual params body scope [] [] fa fd) (S : FnScope N ps scope) (hp : PEn t en) (Γ0 : τ → α → En K)
    (hb : ∀ cdv A outer s H E, Room k (A.deeper (envOfC qual scope s.heap.objs.size fa cdv)) → ∀ (C : Ct), (∀ a, ¬ C.B a) → ∀ tp x, GK (bX P w K mg base N qual scope fa cdv A outer s H E) C (wpB (bX P w K mg base N qual scope fa cdv A outer s H E) body) (Γ0 tp x) (f tp x) (goTopNL C c ce))
    (hn : t.n + 1 = ps.length := by rfl) (hΓ : ∀ tp x, Γ0 tp x = .lp :: (en x ++ (List.replicate (N.length - (t.n + 1)) .no ++ [.ln ce tp])) := by intro _ _; rfl) : FnOk P w K mg base CX0 (k + 1) fa fd ps (spMN K ce t f c) := by
  refine F.ok S (fun vs H Q E h => ?_) fun cdv A outer s H vs Q E hr h => ⟨wpB (bX P w K mg base N qual scope fa cdv A outer s H E) body, PSs.nox pss_w, ?_⟩
  · obtain ⟨W, a, o, us, tp, x, rfl, _, _, _, _, q, _⟩ := h
    rw [List.length_cons, t.len q, hn]
  · obtain ⟨W, a, o, us, tp, x, rfl, sb, wa, ha, hc, q, z, hz, kk⟩ := h
    have s0 := start_satL (N := N) (m := N.length - (t.n + 1)) hp q sb wa ha hc
    rw [← hΓ tp x] at s0
    refine (hb cdv A outer s H E hr ⟨W, H, fun _ => False, some a⟩ (fun _ z => z) tp x).run z _ W H _ s0 hz (fun _ _ _ _ _ j => j.elim) (fun _ _ _ _ _ j => j.elim) (fun _ _ _ _ _ j => j.elim) (fun y v Γ' σ' W' H' e s' _ q' => ?_)
    have e : y = z := e
    subst e
    obtain ⟨⟨p, o2, rfl, g1, g2, g3, g4⟩, a', o', h2, h3, h4⟩ := q'
    cases h2
    exact kk W' H' p o2 o' s'.old s'.sub (fun b u hb h => s'.fr b u h (fun z => z) fun z => hb (Option.some.inj z).symm) s'.nw h3 h4 g1 g2 g3 g4
theorem fnp_of {x : Str} {sp : Sp} (hm : mg x = some (.ref fa)) (F : FunD K nm qual params body scope [] [] fa fd) (G : FnOk P w K mg base CX0 k fa fd ps sp)
    (h : ∀ (kV doc pm : Value) (an : Option Addr) (cdv ct : Value) (us : List Value), us.length = ps.length → bindArgs (PySem.W.fnOf nm qual params body scope .none kV doc pm an cdv ct) ⟨us, []⟩ = pure (ps.zip us)) : FnP P w K mg base x k ps sp :=
  ⟨fa, fd, hm, F.kp, F.bindsN h, G⟩
end
/-! ### calls that change what they are lent -/
section
variable {X : Cx} {C : Ct} {ρ α β γ τ : Type} {Γ : En X.K} {e a b : Expr} {es : List Expr} {r : Option ρ} {x n : Str} {pos p p2 p3 : Pos}
theorem Sat.lent {σ : L2.St} {W H : Hp} {m : Nat} {ce : Cel X.K τ} {tp : τ} (s : Sat C Γ σ W H) (h : Γ[m]? = some (.ln ce tp)) : ∃ a o, C.a = some a ∧ W a = none ∧ H a = some o ∧ ce.ct W o tp := s.sl m _ h
theorem ex_callL {t : TC X.K α} {c : Cod X.K β} {ce : Cel X.K τ} {f : τ → α → Option (β × τ)} {J : β → En X.K → Option ρ → Prop} {k : Nat} {ps : List Str} (i m : Nat) (F : FnP X.prog X.w X.K X.mg X.base x k ps (spM X.K ce t f c)) (hr : Room k X.A)
    (h : EA X C Γ es t r fun y Γ1 r1 => ∃ tp, Γ1[m]? = some (.ln ce tp) ∧ lnU m 0 Γ1 = true ∧ ∃ k, r1 = f tp y >>= k ∧ ∀ z, J z.1 (Γ1.set m (.ln ce z.2)) (k z)) (hΓ : Γ[i]? = some .lp := by rfl) (hN : X.N[i]? = some n := by rfl)
    (hv : Vis X.env.scope n := by first | exact Or.inl rfl | exact Or.inr (Or.inl rfl) | exact Or.inr (Or.inr rfl)) (hd : (n == ("__debug__" : Str)) = false := by decide) (hcd : (n == ("__classdict__" : Str)) = false := by decide)
    (hg : Gl X x := by rfl) (hdb : (x == ("__debug__" : Str)) = false := by decide)
    (he : starEach (.Name n p2 :: es) X.env = (false, eval (.Name n p2) X.env) :: starEach es X.env := by rfl) (hpl : (backTo pos (starEach es X.env)).any (·.1) = false := by rfl) : EX X C Γ (.Call (.Name x p) (.Name n p2 :: es) [] pos) c r J := .mk fun z σ W H Q s hrr kk => by
  obtain ⟨fa, fd, h1, h2, h3, h4⟩ := F.ex
  refine w_pe (pe_call h4 hr hg h1 h2 h3 .nil pass0 (pa_cons (pe_var hN hv hd hcd) pa_w he) hdb he hpl) ?_
  obtain ⟨la, ca, ea⟩ := s.sl i _ hΓ
  refine ⟨_, getD_some ea, h z σ W H _ s hrr fun y Γ1 r1 W1 H1 vs j1 hr1 s1 w1 q1 => ?_⟩
  obtain ⟨tp, g1, g2, k2, e2, j2⟩ := j1
  rw [e2] at hr1
  obtain ⟨t2, et, ht⟩ := bind_some hr1
  obtain ⟨la', o, ca', wa, ha, hc⟩ := s1.lent g1
  rw [ca] at ca'; cases ca'
  rw [List.append_nil]
  exact ⟨W1, la, o, vs, tp, y, rfl, s1.sub, wa, ha, hc, q1, t2, et, fun W2 H2 v o' w2 sub2 hh nw2 ha2 hc2 q2 => kk t2.1 _ _ W2 H2 v (j2 t2) ht (s1.turnL g1 ca w2 sub2 nw2 hh ha2 hc2 g2) (w1.trans w2) q2⟩
theorem ef_callL {t : TC X.K α} {c : Cel X.K β} {ce : Cel X.K τ} {f : τ → α → Option (β × τ)} {J : β → En X.K → Option ρ → Prop} {k : Nat} {ps : List Str} (i m : Nat) (F : FnP X.prog X.w X.K X.mg X.base x k ps (spMN X.K ce t f c)) (hr : Room k X.A)
    (h : EA X C Γ es t r fun y Γ1 r1 => ∃ tp, Γ1[m]? = some (.ln ce tp) ∧ lnU m 0 Γ1 = true ∧ ∃ k, r1 = f tp y >>= k ∧ ∀ z, J z.1 (Γ1.set m (.ln ce z.2)) (k z)) (hΓ : Γ[i]? = some .lp := by rfl) (hN : X.N[i]? = some n := by rfl)
    (hv : Vis X.env.scope n := by first | exact Or.inl rfl | exact Or.inr (Or.inl rfl) | exact Or.inr (Or.inr rfl)) (hd : (n == ("__debug__" : Str)) = false := by decide) (hcd : (n == ("__classdict__" : Str)) = false := by decide)
    (hg : Gl X x := by rfl) (hdb : (x == ("__debug__" : Str)) = false := by decide)
    (he : starEach (.Name n p2 :: es) X.env = (false, eval (.Name n p2) X.env) :: starEach es X.env := by rfl) (hpl : (backTo pos (starEach es X.env)).any (·.1) = false := by rfl) : EF X C Γ (.Call (.Name x p) (.Name n p2 :: es) [] pos) c r J := .mk fun z σ W H Q s hrr kk => by
  obtain ⟨fa, fd, h1, h2, h3, h4⟩ := F.ex
  refine w_pe (pe_call h4 hr hg h1 h2 h3 .nil pass0 (pa_cons (pe_var hN hv hd hcd) pa_w he) hdb he hpl) ?_
  obtain ⟨la, ca, ea⟩ := s.sl i _ hΓ
  refine ⟨_, getD_some ea, h z σ W H _ s hrr fun y Γ1 r1 W1 H1 vs j1 hr1 s1 w1 q1 => ?_⟩
  obtain ⟨tp, g1, g2, k2, e2, j2⟩ := j1
  rw [e2] at hr1
  obtain ⟨t2, et, ht⟩ := bind_some hr1
  obtain ⟨la', o, ca', wa, ha, hc⟩ := s1.lent g1
  rw [ca] at ca'; cases ca'
  rw [List.append_nil]
  refine ⟨W1, la, o, vs, tp, y, rfl, s1.sub, wa, ha, hc, q1, t2, et, fun W2 H2 pp o2 o' w2 sub2 hh nw2 ha2 hc2 wp hp h2p ct => ?_⟩
  have cp : C.H pp = none := by
    cases q : C.H pp with
    | none => rfl
    | some u => exact absurd hp (s1.li pp (by rw [q]; simp))
  have s2 := s1.turnL g1 ca w2 sub2 nw2 hh ha2 hc2 g2
  exact kk t2.1 _ _ W2 H2 pp o2 (j2 t2) ht s2 (w1.trans w2) wp cp h2p ct (fun j oj => s1.apart hp j (own_ne oj fun z => by subst z; exact own_no rfl oj)) fun z => s1.lb pp (.inr z) hp
/-- .. a name's own -/
theorem ex_callO {t : TC X.K α} {c : Cod X.K β} {ce : Cel X.K τ} {f : τ → α → Option (β × τ)} {J : β → En X.K → Option ρ → Prop} {k : Nat} {ps : List Str} (i : Nat) (F : FnP X.prog X.w X.K X.mg X.base x k ps (spM X.K ce t f c)) (hr : Room k X.A) {tp0 : τ}
    (h : EA X C Γ es t r fun y Γ1 r1 => ∃ tp, Γ1[i]? = some (.ow ce tp) ∧ ∃ k, r1 = f tp y >>= k ∧ ∀ z, J z.1 (Γ1.set i (.ow ce z.2)) (k z)) (hΓ : Γ[i]? = some (.ow ce tp0) := by rfl) (hN : X.N[i]? = some n := by rfl)
    (hv : Vis X.env.scope n := by first | exact Or.inl rfl | exact Or.inr (Or.inl rfl) | exact Or.inr (Or.inr rfl)) (hd : (n == ("__debug__" : Str)) = false := by decide) (hcd : (n == ("__classdict__" : Str)) = false := by decide)
    (hg : Gl X x := by rfl) (hdb : (x == ("__debug__" : Str)) = false := by decide)
    (he : starEach (.Name n p2 :: es) X.env = (false, eval (.Name n p2) X.env) :: starEach es X.env := by rfl) (hpl : (backTo pos (starEach es X.env)).any (·.1) = false := by rfl) : EX X C Γ (.Call (.Name x p) (.Name n p2 :: es) [] pos) c r J := .mk fun z σ W H Q s hrr kk => by
  obtain ⟨fa, fd, h1, h2, h3, h4⟩ := F.ex
  refine w_pe (pe_call h4 hr hg h1 h2 h3 .nil pass0 (pa_cons (pe_var hN hv hd hcd) pa_w he) hdb he hpl) ?_
  obtain ⟨la, o0, ea, ha0, hc0⟩ := s.seen hΓ
  refine ⟨_, ea, h z σ W H _ s hrr fun y Γ1 r1 W1 H1 vs j1 hr1 s1 w1 q1 => ?_⟩
  obtain ⟨tp, g1, k2, e2, j2⟩ := j1
  rw [e2] at hr1
  obtain ⟨t2, et, ht⟩ := bind_some hr1
  obtain ⟨la', o, ea', wa, _, ha, hc⟩ := s1.sl i _ g1
  have ea' := getD_some ea'
  rw [ea] at ea'; cases ea'
  rw [List.append_nil]
  exact ⟨W1, la, o, vs, tp, y, rfl, s1.sub, wa, ha, hc, q1, t2, et, fun W2 H2 v o' w2 sub2 hh nw2 ha2 hc2 q2 => kk t2.1 _ _ W2 H2 v (j2 t2) ht (s1.turn g1 ea w2 sub2 nw2 hh ha2 hc2) (w1.trans w2) q2⟩
theorem ef_callO {t : TC X.K α} {c : Cel X.K β} {ce : Cel X.K τ} {f : τ → α → Option (β × τ)} {J : β → En X.K → Option ρ → Prop} {k : Nat} {ps : List Str} (i : Nat) (F : FnP X.prog X.w X.K X.mg X.base x k ps (spMN X.K ce t f c)) (hr : Room k X.A) {tp0 : τ}
    (h : EA X C Γ es t r fun y Γ1 r1 => ∃ tp, Γ1[i]? = some (.ow ce tp) ∧ ∃ k, r1 = f tp y >>= k ∧ ∀ z, J z.1 (Γ1.set i (.ow ce z.2)) (k z)) (hΓ : Γ[i]? = some (.ow ce tp0) := by rfl) (hN : X.N[i]? = some n := by rfl)
    (hv : Vis X.env.scope n := by first | exact Or.inl rfl | exact Or.inr (Or.inl rfl) | exact Or.inr (Or.inr rfl)) (hd : (n == ("__debug__" : Str)) = false := by decide) (hcd : (n == ("__classdict__" : Str)) = false := by decide)
    (hg : Gl X x := by rfl) (hdb : (x == ("__debug__" : Str)) = false := by decide)
    (he : starEach (.Name n p2 :: es) X.env = (false, eval (.Name n p2) X.env) :: starEach es X.env := by rfl) (hpl : (backTo pos (starEach es X.env)).any (·.1) = false := by rfl) : EF X C Γ (.Call (.Name x p) (.Name n p2 :: es) [] pos) c r J := .mk fun z σ W H Q s hrr kk => by
  obtain ⟨fa, fd, h1, h2, h3, h4⟩ := F.ex
  refine w_pe (pe_call h4 hr hg h1 h2 h3 .nil pass0 (pa_cons (pe_var hN hv hd hcd) pa_w he) hdb he hpl) ?_
  obtain ⟨la, o0, ea, ha0, hc0⟩ := s.seen hΓ
  refine ⟨_, ea, h z σ W H _ s hrr fun y Γ1 r1 W1 H1 vs j1 hr1 s1 w1 q1 => ?_⟩
  obtain ⟨tp, g1, k2, e2, j2⟩ := j1
  rw [e2] at hr1
  obtain ⟨t2, et, ht⟩ := bind_some hr1
  obtain ⟨la', o, ea', wa, _, ha, hc⟩ := s1.sl i _ g1
  have ea' := getD_some ea'
  rw [ea] at ea'; cases ea'
  rw [List.append_nil]
  refine ⟨W1, la, o, vs, tp, y, rfl, s1.sub, wa, ha, hc, q1, t2, et, fun W2 H2 pp o2 o' w2 sub2 hh nw2 ha2 hc2 wp hp h2p ct => ?_⟩
  have cp : C.H pp = none := by
    cases q : C.H pp with
    | none => rfl
    | some u => exact absurd hp (s1.li pp (by rw [q]; simp))
  have s2 := s1.turn g1 ea w2 sub2 nw2 hh ha2 hc2
  exact kk t2.1 _ _ W2 H2 pp o2 (j2 t2) ht s2 (w1.trans w2) wp cp h2p ct (fun j oj => by
    by_cases hj : j = i
    · subst hj; exact s1.apart hp j ⟨_, g1, rfl⟩
    · exact s1.apart hp j (own_ne oj hj)) fun z => s1.lb pp (.inr z) hp
/-- return e, what was lent stands at m -/
theorem gs_retL {T : Go X.K (α × τ) β} {r : Option β} {c : Cod X.K α} {ce : Cel X.K τ} (m : Nat) (h : EX X C Γ e c r fun x Γ1 r1 => ∃ tp, Γ1[m]? = some (.ln ce tp) ∧ r1 = some (T.ret (x, tp))) (hR : T.R = RetL C c ce := by rfl) : GK X C (wpS X (.Return (some e) pos)) Γ r T := GK.mk fun z σ W H D s hr kn kb kc kr =>
  w_ps (ps_ret pe_w) (h z σ W H _ s hr fun x Γ1 r1 W1 H1 v j1 hr1 s1 w1 q1 => by
    obtain ⟨tp, g1, e1⟩ := j1
    obtain ⟨a, o, ca, _, ha, hc⟩ := s1.lent g1
    exact kr (x, tp) v Γ1 σ W1 H1 (by rw [e1] at hr1; exact Option.some.inj hr1) s1 w1 (by rw [hR]; exact ⟨q1, a, o, ca, ha, hc⟩))
theorem gs_retNL {T : Go X.K (α × τ) β} {r : Option β} {c : Cel X.K α} {ce : Cel X.K τ} (m : Nat) (h : EF X C Γ e c r fun x Γ1 r1 => ∃ tp, Γ1[m]? = some (.ln ce tp) ∧ r1 = some (T.ret (x, tp))) (hR : T.R = RetNL C c ce := by rfl) : GK X C (wpS X (.Return (some e) pos)) Γ r T := GK.mk fun z σ W H D s hr kn kb kc kr =>
  w_ps (ps_ret pe_w) (h z σ W H _ s hr fun x Γ1 r1 W1 H1 p o j1 hr1 s1 w1 wp cp hp ct ap lap => by
    obtain ⟨tp, g1, e1⟩ := j1
    obtain ⟨a, o', ca, _, ha, hc⟩ := s1.lent g1
    exact kr (x, tp) _ Γ1 σ W1 H1 (by rw [e1] at hr1; exact Option.some.inj hr1) s1 w1 (by rw [hR]; exact ⟨⟨p, o, rfl, wp, cp, hp, ct⟩, a, o', ca, ha, hc⟩))
theorem gs_retOL {T : Go X.K (α × τ) β} {r : Option β} {c : Cel X.K α} {ce : Cel X.K τ} {y : α} {tp : τ} (i m : Nat) (hr0 : r = some (T.ret (y, tp))) (hB : ∀ a, ¬ C.B a) (hR : T.R = RetNL C c ce := by rfl) (hm : Γ[m]? = some (.ln ce tp) := by rfl) (hN : X.N[i]? = some n := by rfl) (hΓ : Γ[i]? = some (.ow c y) := by rfl)
    (hv : Vis X.env.scope n := by first | exact Or.inl rfl | exact Or.inr (Or.inl rfl) | exact Or.inr (Or.inr rfl)) (hd : (n == ("__debug__" : Str)) = false := by decide) (hcd : (n == ("__classdict__" : Str)) = false := by decide) :
    GK X C (wpS X (.Return (some (.Name n p)) pos)) Γ r T := GK.mk fun z σ W H D s hr kn kb kc kr =>
  w_ps (ps_ret (pe_var hN hv hd hcd)) (by
    obtain ⟨ad, o, e1, e2, e3, e4, e5⟩ := s.sl i _ hΓ
    obtain ⟨a, o', ca, _, ha, hc⟩ := s.lent hm
    exact ⟨_, getD_some e1, kr (y, tp) _ Γ σ W H (by rw [hr0] at hr; exact Option.some.inj hr) s (Same.refl _) (by rw [hR]; exact ⟨⟨ad, o, rfl, e2, e3.resolve_right (hB ad), e4, e5⟩, a, o', ca, ha, hc⟩)⟩)
end
end Ty

set_option maxHeartbeats 4000000
namespace Ty
open PySem PySem.Spec PyProof.Rows L2

section
variable {X : Cx} {C : Ct} {ρ α β γ τ : Type} {Γ : En X.K} {e a b : Expr} {es : List Expr} {r : Option ρ} {x n : Str} {pos p p2 p3 : Pos}
theorem wk_freeze {K : Frag} {C : Ct} {Γ Γ' : En K} {α : Type} {c : Cod K α} {xs : List α} (i : Nat) (hB : ∀ a, ¬ C.B a) (hi : Γ[i]? = some (.ow (lstC c) xs) := by rfl) (h : Γ.set i (.im (cLst c) xs) = Γ' := by rfl) : Wk C Γ Γ' := fun σ W H s => by
  subst h
  exact s.freeze hi fun a z => absurd z (hB a)

/-! never None -/
structure NN {K : Frag} {α : Type} (c : Cod K α) : Prop where
  nn : ∀ {H v x}, c.rp H v x → v ≠ .non
theorem nnI {K : Frag} : NN (cInt (K := K)) := ⟨fun h => by cases h; intro z; cases z⟩
theorem nnB {K : Frag} : NN (cBool (K := K)) := ⟨fun h => by cases h; intro z; cases z⟩
theorem nnS {K : Frag} : NN (cStr (K := K)) := ⟨fun h => by cases h; intro z; cases z⟩
theorem nnT {K : Frag} {t : TC K α} : NN (cTup t) := ⟨fun ⟨a, vs, h, _⟩ => by rw [h]; intro z; cases z⟩
theorem nnQ {K : Frag} {c : Cod K α} : NN (cSeq c) := ⟨fun ⟨a, vs, h, _⟩ => by rw [h]; intro z; cases z⟩
theorem nnL {K : Frag} {c : Cod K α} : NN (cLst c) := ⟨fun ⟨a, vs, h, _⟩ => by rw [h]; intro z; cases z⟩
theorem ex_some {c : Cod X.K α} {J : Option α → En X.K → Option ρ → Prop} (nn : NN c) (h : EX X C Γ e c r fun x Γ' r' => J (some x) Γ' r') : EX X C Γ e (cOpt c) r J := ex_as some (fun q => ⟨nn.nn q, q⟩) h
theorem ex_non {c : Cod X.K α} {J : Option α → En X.K → Option ρ → Prop} {j} (h : J none Γ r) : EX X C Γ (.Constant .none j pos) (cOpt c) r J := ex_as (c := cNon) (fun _ => none) (fun q => q) (ex_none h)
/-- an optional value that is one -/
theorem ex_get {c : Cod X.K α} {J : α → En X.K → Option ρ → Prop} (h : EX X C Γ e (cOpt c) r fun x Γ' r' => ∃ k, r' = x >>= k ∧ ∀ y, J y Γ' (k y)) : EX X C Γ e c r J := .mk fun z σ W H Q s hr k =>
  h z σ W H Q s hr fun x Γ' r' W' H' v j hr' s' w q => by
    obtain ⟨k2, e2, j2⟩ := j
    rw [e2] at hr'
    obtain ⟨y, ey, ht⟩ := bind_some hr'
    subst ey
    exact k y Γ' _ W' H' v (j2 y) ht s' w q.2
theorem ex_isN {c : Cod X.K α} {J : Bool → En X.K → Option ρ → Prop} {j p2} (h : EX X C Γ a (cOpt c) r fun x Γ1 r1 => J (x.isNone) Γ1 r1) : EX X C Γ (.Compare a [.Is] [.Constant .none j p2] pos) cBool r J := .mk fun z σ W H Q s hr k =>
  w_pe (pe_cmp (pc_isN pe_w)) (h z σ W H _ s hr fun x Γ1 r1 W1 H1 v j1 hr1 s1 w1 q1 => by
    have e : decide (v = V.non) = x.isNone := by
      cases x with
      | none => rw [show v = V.non from q1]; rfl
      | some y => exact decide_eq_false q1.1
    exact k _ Γ1 r1 W1 H1 _ j1 hr1 s1 w1 (by rw [e]; rfl))
theorem ex_notN {c : Cod X.K α} {J : Bool → En X.K → Option ρ → Prop} {j p2} (h : EX X C Γ a (cOpt c) r fun x Γ1 r1 => J (x.isSome) Γ1 r1) : EX X C Γ (.Compare a [.IsNot] [.Constant .none j p2] pos) cBool r J := .mk fun z σ W H Q s hr k =>
  w_pe (pe_cmp (pc_notN pe_w)) (h z σ W H _ s hr fun x Γ1 r1 W1 H1 v j1 hr1 s1 w1 q1 => by
    have e : (!decide (v = V.non)) = x.isSome := by
      cases x with
      | none => rw [show v = V.non from q1]; rfl
      | some y => rw [decide_eq_false q1.1]; rfl
    exact k _ Γ1 r1 W1 H1 _ j1 hr1 s1 w1 (by rw [e]; rfl))

/-! values at large -/
def U.isNon : U → Option Bool
  | .non => some true
  | .opq => none
  | _ => some false
theorem u_non {K : Frag} {H : Hp} {v : V} {x : U} {b : Bool} (h : rpU K H x v) (e : x.isNon = some b) : decide (v = V.non) = b := by
  cases x with
  | non => cases h; cases e; rfl
  | bl _ => cases h; cases e; rfl
  | int _ => cases h; cases e; rfl
  | str _ => cases h; cases e; rfl
  | tup _ => obtain ⟨a, vs, rfl, _⟩ := h; cases e; rfl
  | lst _ => obtain ⟨a, vs, rfl, _⟩ := h; cases e; rfl
  | opq => cases e
theorem et_isU {J : Bool → En X.K → Option ρ → Prop} {j p2} (h : EX X C Γ a cU r fun x Γ1 r1 => ∃ k, r1 = x.isNon >>= k ∧ ∀ z, J z Γ1 (k z)) : ET X C Γ (.Compare a [.Is] [.Constant .none j p2] pos) r J := .mk fun z σ W H Q s hr k =>
  w_pt (pt_cmp (pc_isN pe_w)) (h z σ W H _ s hr fun x Γ1 r1 W1 H1 v j1 hr1 s1 w1 q1 => by
    obtain ⟨k2, e2, j2⟩ := j1
    rw [e2] at hr1
    obtain ⟨t, et, ht⟩ := bind_some hr1
    exact ⟨_, rfl, by rw [u_non q1 et]; exact k _ Γ1 _ W1 H1 (j2 t) ht s1 w1⟩)
theorem ex_isU {J : Bool → En X.K → Option ρ → Prop} {j p2} (h : EX X C Γ a cU r fun x Γ1 r1 => ∃ k, r1 = x.isNon >>= k ∧ ∀ z, J z Γ1 (k z)) : EX X C Γ (.Compare a [.Is] [.Constant .none j p2] pos) cBool r J := .mk fun z σ W H Q s hr k =>
  w_pe (pe_cmp (pc_isN pe_w)) (h z σ W H _ s hr fun x Γ1 r1 W1 H1 v j1 hr1 s1 w1 q1 => by
    obtain ⟨k2, e2, j2⟩ := j1
    rw [e2] at hr1
    obtain ⟨t, et, ht⟩ := bind_some hr1
    exact k t Γ1 _ W1 H1 _ (j2 t) ht s1 w1 (by rw [u_non q1 et]; rfl))
def U.get : U → Int → Option U
  | .tup l, i => atI l i
  | _, _ => none
theorem rpUs.get {K : Frag} {H : Hp} : ∀ {us : List U} {vs : List V} {i : Nat} {x : U}, rpUs K H us vs → us[i]? = some x → ∃ v, vs[i]? = some v ∧ rpU K H x v
  | [], _, _, _, _, e => by simp at e
  | u :: us, _, 0, x, ⟨v, r, rfl, h2, h3⟩, e => by simp at e; subst e; exact ⟨v, rfl, h2⟩
  | u :: us, _, i + 1, x, ⟨v, r, rfl, h2, h3⟩, e => by
    obtain ⟨w, q1, q2⟩ := rpUs.get (i := i) h3 (by simpa using e)
    exact ⟨w, by simpa using q1, q2⟩
theorem ex_ixU {J : U → En X.K → Option ρ → Prop} (h : EX X C Γ a cU r fun x Γ1 r1 => EX X C Γ1 b cInt r1 fun i Γ2 r2 => ∃ k, r2 = U.get x i >>= k ∧ ∀ z, J z Γ2 (k z)) (hp : PlainIx b := by exact fun _ _ => rfl) :
    EX X C Γ (.Subscript a b pos) cU r J := .mk fun z σ W H Q s hr k =>
  w_pe (pe_ix ix_tup pe_w pe_w hp) (h z σ W H _ s hr fun x Γ1 r1 W1 H1 v j1 hr1 s1 w1 q1 => j1 z σ W1 H1 _ s1 hr1 fun i Γ2 r2 W2 H2 u j2 hr2 s2 w2 q2 => by
    obtain ⟨k2, e2, j2⟩ := j2
    rw [e2] at hr2
    obtain ⟨t, et, ht⟩ := bind_some hr2
    cases x with
    | tup l =>
      obtain ⟨ad, vs, rfl, h2, h3⟩ := q1
      have et : atI l i = some t := et
      unfold atI at et
      cases hj : ixN l.length i with
      | none => rw [hj] at et; cases et
      | some jn =>
        rw [hj] at et
        have h3' := h3.mono w2
        obtain ⟨w, f1, f2⟩ := rpUs.get h3' (show l[jn]? = some t from et)
        refine ⟨ad, vs, i, w, rfl, q2, Same.tup s2.sub (Same.tup w2 h2), ?_, k t Γ2 _ W2 H2 w (j2 t) ht s2 (w1.trans w2) f2⟩
        unfold atI
        rw [rpUs.length h3', hj]
        exact f1
    | _ => cases et)
def U.eq : U → U → Option Bool
  | .int i, .int j => some (decide (i = j))
  | .bl i, .bl j => some (decide (i = j))
  | .str i, .str j => some (decide (i = j))
  | _, _ => none
theorem o_eqU : Op2 X (compareOp .Eq) cU cU cBool U.eq := ⟨_, op_eq, fun W H x y v u z Q sb h1 h2 e k => by
  cases x with
  | int i => cases y with
    | int j => cases h1; cases h2; cases e; exact ⟨rfl, k _ W H (Grow.refl sb) (by show V.bl _ = V.bl _; rw [dec_int, Bool.beq_eq_decide_eq])⟩
    | _ => cases e
  | bl i => cases y with
    | bl j => cases h1; cases h2; cases e; exact ⟨rfl, k _ W H (Grow.refl sb) (by show V.bl _ = V.bl _; rw [dec_bl, Bool.beq_eq_decide_eq])⟩
    | _ => cases e
  | str i => cases y with
    | str j => cases h1; cases h2; cases e; exact ⟨rfl, k _ W H (Grow.refl sb) (by show V.bl _ = V.bl _; rw [dec_str, Bool.beq_eq_decide_eq])⟩
    | _ => cases e
  | _ => cases e⟩
/-- a comparison that may not go -/
theorem ex_cmpP {op : CmpOp} {c1 : Cod X.K α} {c2 : Cod X.K β} {g : α → β → Option Bool} {J : Bool → En X.K → Option ρ → Prop} (o : Op2 X (compareOp op) c1 c2 cBool g)
    (h : EX X C Γ a c1 r fun x Γ1 r1 => EX X C Γ1 b c2 r1 fun y Γ2 r2 => ∃ k, r2 = g x y >>= k ∧ ∀ z, J z Γ2 (k z)) (hm : behindInMarks op b = false := by first | exact nomark _ | rfl) : EX X C Γ (.Compare a [op] [b] pos) cBool r J := .mk fun z σ W H Q s hr k => by
  obtain ⟨ro, ho, hf⟩ := o
  refine w_pe (pe_cmpR ho pe_w pe_w hm) (h z σ W H _ s hr fun x Γ1 r1 W1 H1 v j1 hr1 s1 w1 q1 => j1 z σ W1 H1 _ s1 hr1 fun y Γ2 r2 W2 H2 u j2 hr2 s2 w2 q2 => ?_)
  obtain ⟨k2, e2, j2⟩ := j2
  rw [e2] at hr2
  obtain ⟨t, et, ht⟩ := bind_some hr2
  exact hf W2 H2 x y v u t _ s2.sub (c1.mono w2 q1) q2 et fun w W3 H3 G q3 => k t Γ2 _ W3 H3 w (j2 t) ht (s2.grow G) ((w1.trans w2).trans G.w) q3

/-! the tape: what a law draws from -/
structure Tape where
  cells : List Int
  place : Int
  rest : Int
  mixed : Int
def celT {K : Frag} : Cel K Tape := ⟨fun W o t => ∃ c, o = .lst [.ref c, .int t.place, .int t.rest, .int t.mixed] ∧ W c = some (.lst (t.cells.map V.int)), fun e ⟨c, h, q⟩ => ⟨c, h, e _ _ q⟩, fun ⟨_, h, _⟩ => by rw [h]; trivial⟩
def Tape.fld (t : Tape) : Nat → Int
  | 1 => t.place
  | 2 => t.rest
  | _ => t.mixed
def Tape.put (t : Tape) : Nat → Int → Tape
  | 1, x => { t with place := x }
  | 2, x => { t with rest := x }
  | _, x => { t with mixed := x }
theorem ef_tape {J : Tape → En X.K → Option ρ → Prop} (h : EA X C Γ es (tcC (cLst cInt) (tcC cInt (tcC cInt (tc1 cInt)))) r fun x Γ1 r1 => J ⟨x.1, x.2.1, x.2.2.1, x.2.2.2⟩ Γ1 r1) : EF X C Γ (.List es pos) celT r J := .mk fun z σ W H Q s hr k =>
  w_pe (pe_lst pa_w) (h z σ W H _ s hr fun x Γ1 r1 W1 H1 vs j1 hr1 s1 w1 q1 => by
    obtain ⟨v1, r1', rfl, ⟨ad, us, rfl, h1, h2⟩, v2, r2', rfl, g2, v3, r3', rfl, g3, v4, rfl, g4⟩ := q1
    refine ⟨by show 4 ≤ sizeLine; decide, fun p hp => ?_⟩
    obtain ⟨s2, wp, cp, ap, la⟩ := s1.fresh (o := .lst [.ref ad, v2, v3, v4]) hp
    cases g2; cases g3; cases g4
    rw [h2.ints] at h1
    exact k _ Γ1 r1 _ _ p _ j1 hr1 s2 w1 wp cp upd_same ⟨ad, rfl, h1⟩ ap la)
/-- the name i is lent the tape -/
theorem ex_tapeF {J : Int → En X.K → Option ρ → Prop} {t : Tape} {kk : Nat} {j} (i m : Nat) (hJ : J (t.fld kk) Γ r) (hm : Γ[m]? = some (.ln celT t) := by rfl) (hk : kk = 1 ∨ kk = 2 ∨ kk = 3 := by decide) (hΓ : Γ[i]? = some .lp := by rfl) (hN : X.N[i]? = some n := by rfl)
    (hv : Vis X.env.scope n := by first | exact Or.inl rfl | exact Or.inr (Or.inl rfl) | exact Or.inr (Or.inr rfl)) (hd : (n == ("__debug__" : Str)) = false := by decide) (hcd : (n == ("__classdict__" : Str)) = false := by decide) :
    EX X C Γ (.Subscript (.Name n p) (.Constant (.int (kk : Int)) j p2) pos) cInt r J := .mk fun z σ W H Q s hr k =>
  w_pe (pe_ix ix_list (pe_var hN hv hd hcd) pe_int (fun _ _ => rfl)) (by
    obtain ⟨la, ca, ea⟩ := s.sl i _ hΓ
    obtain ⟨la', o, ca', wa, ha, c, rfl, hc⟩ := s.lent hm
    rw [ca] at ca'; cases ca'
    refine ⟨_, getD_some ea, la, _, (kk : Int), .int (t.fld kk), rfl, rfl, SqL.of ha, ?_, k _ Γ r W H _ hJ hr s (Same.refl _) rfl⟩
    rcases hk with rfl | rfl | rfl <;> rfl)
theorem ex_tape0 {J : List Int → En X.K → Option ρ → Prop} {t : Tape} {j} (i m : Nat) (hJ : J t.cells Γ r) (hm : Γ[m]? = some (.ln celT t) := by rfl) (hΓ : Γ[i]? = some .lp := by rfl) (hN : X.N[i]? = some n := by rfl)
    (hv : Vis X.env.scope n := by first | exact Or.inl rfl | exact Or.inr (Or.inl rfl) | exact Or.inr (Or.inr rfl)) (hd : (n == ("__debug__" : Str)) = false := by decide) (hcd : (n == ("__classdict__" : Str)) = false := by decide) :
    EX X C Γ (.Subscript (.Name n p) (.Constant (.int 0) j p2) pos) (cLst cInt) r J := .mk fun z σ W H Q s hr k =>
  w_pe (pe_ix ix_list (pe_var hN hv hd hcd) pe_int (fun _ _ => rfl)) (by
    obtain ⟨la, ca, ea⟩ := s.sl i _ hΓ
    obtain ⟨la', o, ca', wa, ha, c, rfl, hc⟩ := s.lent hm
    rw [ca] at ca'; cases ca'
    exact ⟨_, getD_some ea, la, _, 0, .ref c, rfl, rfl, SqL.of ha, rfl, k _ Γ r W H _ hJ hr s (Same.refl _) ⟨c, _, rfl, hc, Row.of_ints _⟩⟩)
theorem gs_tape {ρ' : Type} {r : Option β} {T : Go X.K ρ' β} {kk : Nat} {j} (i m : Nat)
    (h : EX X C Γ e cInt r fun x Γ1 r1 => Γ1[i]? = some .lp ∧ lnU m 0 Γ1 = true ∧ ∃ t, Γ1[m]? = some (.ln celT t) ∧ T.nx (Γ1.set m (.ln celT (t.put kk x))) r1) (hk : kk = 1 ∨ kk = 2 ∨ kk = 3 := by decide) (hN : X.N[i]? = some n := by rfl)
    (hv : Vis X.env.scope n := by first | exact Or.inl rfl | exact Or.inr (Or.inl rfl) | exact Or.inr (Or.inr rfl)) (hd : (n == ("__debug__" : Str)) = false := by decide) (hcd : (n == ("__classdict__" : Str)) = false := by decide)
    (ha : ∀ v, assign (.Subscript (.Name n p) (.Constant (.int (kk : Int)) j p3) p2) X.env v = (do
      let ov ← holding [v] (eval (.Name n p) X.env)
      let iv ← holding [v, ov] (eval (.Constant (.int (kk : Int)) j p3) X.env)
      standAt p2
      holding [v, ov, iv] (setItem ov iv v)
      release [v, ov, iv] []) := by intro _; rfl)
    (hs : swapsWithSole [.Subscript (.Name n p) (.Constant (.int (kk : Int)) j p3) p2] e pos.line X.env = pure false := by rfl) (hw : swappedStores [.Subscript (.Name n p) (.Constant (.int (kk : Int)) j p3) p2] e X.env = pure none := by rfl)
    (h1 : (assignEach [.Subscript (.Name n p) (.Constant (.int (kk : Int)) j p3) p2] X.env).map (·.2) = [assign (.Subscript (.Name n p) (.Constant (.int (kk : Int)) j p3) p2) X.env] := by rfl) :
    GK X C (wpS X (.Assign [.Subscript (.Name n p) (.Constant (.int (kk : Int)) j p3) p2] e pos)) Γ r T := GK.mk fun z σ W H D s hr kn kb kc kr => by
  refine w_ps (ps_asg pe_w (pg_sub (pe_var hN hv hd hcd) pe_int set_list ha) hs hw h1) (h z σ W H _ s hr fun x Γ1 r1 W1 H1 v j1 hr1 s1 w1 q1 => ?_)
  obtain ⟨hΓ, hu, t, hm, j1⟩ := j1
  obtain ⟨la, ca, ea⟩ := s1.sl i _ hΓ
  obtain ⟨la', o, ca', wa, hl, c, rfl, hc⟩ := s1.lent hm
  rw [ca] at ca'; cases ca'
  cases q1
  have fin : ∀ jn : Nat, ixN 4 (kk : Int) = some jn → ([V.ref c, .int t.place, .int t.rest, .int t.mixed] : List V).set jn (.int x) = [.ref c, .int (t.put kk x).place, .int (t.put kk x).rest, .int (t.put kk x).mixed] → (t.put kk x).cells = t.cells → 
      D.nx σ (upd H1 la (.lst (([V.ref c, .int t.place, .int t.rest, .int t.mixed] : List V).set jn (.int x)))) := fun jn _ e2 e3 => by
    rw [e2]
    refine kn _ r1 σ W1 _ j1 hr1 (s1.turnL hm ca (Same.refl _) (fun b u q => by rw [upd_ne (ne_of_none q wa)]; exact s1.sub b u q) (fun _ _ q => q) (fun b u hb q => by rw [upd_ne hb]; exact q) upd_same ⟨c, rfl, by rw [e3]; exact hc⟩ hu) w1
  refine ⟨_, getD_some ea, ?_⟩
  rcases hk with rfl | rfl | rfl
  · exact ⟨la, _, 1, 1, rfl, rfl, hl, rfl, fin 1 rfl rfl rfl⟩
  · exact ⟨la, _, 2, 2, rfl, rfl, hl, rfl, fin 2 rfl rfl rfl⟩
  · exact ⟨la, _, 3, 3, rfl, rfl, hl, rfl, fin 3 rfl rfl rfl⟩
end
end Ty

set_option maxHeartbeats 4000000
namespace Ty
open PySem PySem.Spec PyProof.Rows L2

/-! ### from values at large to typed ones -/
section
variable {K : Frag} {α β : Type}
structure DecP (c : Cod K α) (d : U → Option α) : Prop where
  ok : ∀ {H u v x}, d u = some x → rpU K H u v → c.rp H v x
structure DecR (t : TC K α) (d : List U → Option α) : Prop where
  ok : ∀ {H us vs x}, d us = some x → rpUs K H us vs → t.rp H vs x
def dInt : U → Option Int
  | .int i => some i
  | _ => none
def dBool : U → Option Bool
  | .bl i => some i
  | _ => none
def dStr : U → Option Str
  | .str i => some i
  | _ => none
def dTup (d : List U → Option α) : U → Option α
  | .tup l => d l
  | _ => none
def dR0 : List U → Option Unit
  | [] => some ()
  | _ => none
def dR1 (d : U → Option α) : List U → Option α
  | [u] => d u
  | _ => none
def dRC (d : U → Option α) (r : List U → Option β) : List U → Option (α × β)
  | u :: us => d u >>= fun x => r us >>= fun y => some (x, y)
  | _ => none
def dSeq (d : U → Option α) : U → Option (List α)
  | .tup l => mapR d l
  | _ => none
def dLst (d : U → Option α) : U → Option (List α)
  | .lst l => mapR d l
  | _ => none
def dOpt (d : U → Option α) : U → Option (Option α)
  | .non => some none
  | u => d u >>= fun x => some (some x)
theorem decI : DecP (cInt (K := K)) dInt := ⟨fun {H u v x} e h => by cases u <;> first | (cases e; exact h) | cases e⟩
theorem decB : DecP (cBool (K := K)) dBool := ⟨fun {H u v x} e h => by cases u <;> first | (cases e; exact h) | cases e⟩
theorem decS : DecP (cStr (K := K)) dStr := ⟨fun {H u v x} e h => by cases u <;> first | (cases e; exact h) | cases e⟩
theorem decU : DecP (cU (K := K)) some := ⟨fun {H u v x} e h => by cases e; exact h⟩
theorem decT {t : TC K α} {d : List U → Option α} (h : DecR t d) : DecP (cTup t) (dTup d) := ⟨fun {H u v x} e q => by
  cases u <;> first | cases e | skip
  obtain ⟨a, vs, rfl, h2, h3⟩ := q
  exact ⟨a, vs, rfl, h2, h.ok e h3⟩⟩
theorem decR0 : DecR (tc0 (K := K)) dR0 := ⟨fun {H us vs x} e q => by
  cases us with
  | nil => exact q
  | cons _ _ => cases e⟩
theorem decR1 {c : Cod K α} {d : U → Option α} (h : DecP c d) : DecR (tc1 c) (dR1 d) := ⟨fun {H us vs x} e q => by
  match us, e, q with
  | [u], e, ⟨v, r, hv, h1, h2⟩ => cases h2; exact ⟨v, hv, h.ok e h1⟩⟩
theorem decRC {c : Cod K α} {t : TC K β} {d : U → Option α} {r : List U → Option β} (h : DecP c d) (hr : DecR t r) : DecR (tcC c t) (dRC d r) := ⟨fun {H us vs x} e q => by
  match us, e, q with
  | u :: us, e, ⟨v, w, hv, h1, h2⟩ =>
    obtain ⟨x1, e1, e2⟩ := bind_some (show d u >>= _ = some x from e)
    obtain ⟨x2, e3, e4⟩ := bind_some e2
    cases e4
    exact ⟨v, w, hv, h.ok e1 h1, hr.ok e3 h2⟩⟩
theorem row_dec {c : Cod K α} {d : U → Option α} {H : Hp} (h : DecP c d) : ∀ {us : List U} {vs : List V} {xs : List α}, mapR d us = some xs → rpUs K H us vs → Row c H vs xs
  | [], _, _, e, q => by cases e; cases q; exact .nil
  | u :: us, _, _, e, ⟨v, w, hv, h1, h2⟩ => by
    obtain ⟨x1, e1, e2⟩ := bind_some (show d u >>= _ = some _ from e)
    obtain ⟨x2, e3, e4⟩ := bind_some e2
    cases e4
    subst hv
    exact .cons (h.ok e1 h1) (row_dec h e3 h2)
theorem decQ {c : Cod K α} {d : U → Option α} (h : DecP c d) : DecP (cSeq c) (dSeq d) := ⟨fun {H u v x} e q => by
  cases u <;> first | cases e | skip
  obtain ⟨a, vs, rfl, h2, h3⟩ := q
  exact ⟨a, vs, rfl, h2, row_dec h e h3⟩⟩
theorem decL {c : Cod K α} {d : U → Option α} (h : DecP c d) : DecP (cLst c) (dLst d) := ⟨fun {H u v x} e q => by
  cases u <;> first | cases e | skip
  obtain ⟨a, vs, rfl, h2, h3⟩ := q
  exact ⟨a, vs, rfl, h2, row_dec h e h3⟩⟩
theorem decO {c : Cod K α} {d : U → Option α} (nn : NN c) (h : DecP c d) : DecP (cOpt c) (dOpt d) := ⟨fun {H u v x} e q => by
  have go : ∀ u, (d u >>= fun x => some (some x)) = some x → rpU K H u v → (cOpt c).rp H v x := fun u e q => by
    obtain ⟨x1, e1, e2⟩ := bind_some e
    cases e2
    exact ⟨nn.nn (h.ok e1 q), h.ok e1 q⟩
  cases u with
  | non => cases e; exact q
  | _ => exact go _ e q⟩
end
section
variable {X : Cx} {C : Ct} {ρ α β : Type} {Γ : En X.K} {e a b tg : Expr} {r : Option ρ} {pos p p2 : Pos}
theorem ex_dec {c : Cod X.K α} {d : U → Option α} {J : α → En X.K → Option ρ → Prop} (D : DecP c d) (h : EX X C Γ e cU r fun u Γ' r' => ∃ k, r' = d u >>= k ∧ ∀ x, J x Γ' (k x)) : EX X C Γ e c r J := .mk fun z σ W H Q s hr k =>
  h z σ W H Q s hr fun u Γ' r' W' H' v j hr' s' w q => by
    obtain ⟨k2, e2, j2⟩ := j
    rw [e2] at hr'
    obtain ⟨x, ex, ht⟩ := bind_some hr'
    exact k x Γ' _ W' H' v (j2 x) ht s' w (D.ok ex q)
/-- a typed value read otherwise (by way of its shape at large) -/
theorem ex_cast {c : Cod X.K α} {c' : Cod X.K β} {d : U → Option β} {J : β → En X.K → Option ρ → Prop} (D : DecP c' d) (h : EX X C Γ e c r fun x Γ' r' => ∃ k, r' = d (c.u x) >>= k ∧ ∀ y, J y Γ' (k y)) : EX X C Γ e c' r J := ex_dec D (ex_u h)
theorem ei_U {J : List U → En X.K → Option ρ → Prop} (h : EX X C Γ e cU r fun u Γ' r' => ∃ k, r' = dSeq some u >>= k ∧ ∀ x, J x Γ' (k x)) : EI X C Γ tg e cU r J := ei_seq (ex_dec (decQ decU) h)
/-- list(range(n)) -/
theorem ef_listRng {J : List Int → En X.K → Option ρ → Prop} (hc : X.calm = true) (hm : X.mg "list" = none) (hm2 : X.mg "range" = none) (h : EX X C Γ a cInt r fun n Γ1 r1 => ∃ k, r1 = rng1 n >>= k ∧ ∀ xs, J xs Γ1 (k xs)) (hg : Gl X "list" := by rfl) (hg2 : Gl X "range" := by rfl)
    (na : starEach [a] X.env = (false, eval a X.env) :: starEach [] X.env := by rfl) (na2 : starEach [.Call (.Name "range" p2) [a] [] pos] X.env = (false, eval (.Call (.Name "range" p2) [a] [] pos) X.env) :: starEach [] X.env := by rfl) {pos2 : Pos} :
    EF X C Γ (.Call (.Name "list" p) [.Call (.Name "range" p2) [a] [] pos] [] pos2) (lstC cInt) r J := .mk fun z σ W H Q s hr k =>
  w_pe (pe_listRg hc hg hm (prg_1 hg2 hm2 pe_w na) na2) (h z σ W H _ s hr fun n Γ1 r1 W1 H1 v j1 hr1 s1 w1 q1 => by
    obtain ⟨k2, e2, j2⟩ := j1
    rw [e2] at hr1
    obtain ⟨t, et, ht⟩ := bind_some hr1
    unfold rng1 at et
    split at et
    · rename_i hcn
      cases et
      obtain ⟨c1, c2⟩ := id hcn
      refine ⟨n, q1, ⟨by omega, by omega, by omega, by omega, by omega⟩, fun q hq => ?_⟩
      obtain ⟨s2, wp, cp, ap, la⟩ := s1.fresh (o := .lst (rgV 0 n)) hq
      have e : rgV 0 n = (rangeI 0 n).map V.int := by simp [rgV, rangeI, List.map_map, Function.comp_def]
      exact k _ Γ1 _ W1 _ q _ (j2 _) ht s2 w1 wp cp upd_same ⟨rgV 0 n, rfl, by rw [e]; exact Row.of_ints _⟩ ap la
    · cases et)
end
end Ty

set_option maxHeartbeats 4000000
namespace Ty
open PySem PySem.Spec PyProof.Rows L2
/-! ### calls whose value always goes -/
section
variable {X : Cx} {C : Ct} {ρ α β γ : Type} {Γ : En X.K} {e a b : Expr} {es : List Expr} {r : Option ρ} {pos p p2 p3 : Pos}
theorem CallB.useT {f : Value} {t : TC X.K α} {c : Cod X.K β} {g : α → β} {J : β → En X.K → Option ρ → Prop} {rr : List V → Hp → VK → Prop} (hf : ∀ W H vs x z (Q : VK), Same W H → t.rp W vs x → some (g x) = some z → (∀ w W' H', Grow W H W' H' → c.rp W' w z → Q w H') → rr vs H Q)
    (h : EA X C Γ es t r fun x Γ1 r1 => J (g x) Γ1 r1) {z : ρ} {σ : L2.St} {W H : Hp} {Q : VK} (s : Sat C Γ σ W H) (hr : r = some z)
    (k : ∀ x Γ' r' W' H' v, J x Γ' r' → r' = some z → Sat C Γ' σ W' H' → Same W W' → c.rp W' v x → Q v H') : tCB rr (wpa X es) σ H Q :=
  h z σ W H _ s hr fun x Γ1 r1 W1 H1 vs j1 hr1 s1 w1 q1 =>
    hf W1 H1 vs x _ _ s1.sub q1 rfl fun w W2 H2 G q2 => k (g x) Γ1 _ W2 H2 w j1 hr1 (s1.grow G) (w1.trans G.w) q2
theorem CallN.useT {f : Value} {t : TC X.K α} {c : Cel X.K β} {g : α → β} {J : β → En X.K → Option ρ → Prop} {rr : List V → Hp → VK → Prop} (hf : ∀ W H vs x z (Q : VK), Same W H → t.rp W vs x → some (g x) = some z → (∀ l o, H l = none → c.ct W o z → Q (.ref l) (upd H l o)) → rr vs H Q)
    (h : EA X C Γ es t r fun x Γ1 r1 => J (g x) Γ1 r1) {z : ρ} {σ : L2.St} {W H : Hp} {Q : VK} (s : Sat C Γ σ W H) (hr : r = some z)
    (k : ∀ x Γ' r' W' H' p o, J x Γ' r' → r' = some z → Sat C Γ' σ W' H' → Same W W' → W' p = none → C.H p = none → H' p = some o → c.ct W' o x → Apart Γ' σ p → C.a ≠ some p → Q (.ref p) H') : tCB rr (wpa X es) σ H Q :=
  h z σ W H _ s hr fun x Γ1 r1 W1 H1 vs j1 hr1 s1 w1 q1 => by
    refine hf W1 H1 vs x _ _ s1.sub q1 rfl fun l o hl ct => ?_
    obtain ⟨s2, wl, cl, ap, la⟩ := s1.fresh (o := o) hl
    exact k (g x) Γ1 _ W1 _ l o j1 hr1 s2 w1 wl cl upd_same ct ap la
variable {x : Str} {id T : String}
theorem ex_callBT {t : TC X.K α} {c : Cod X.K β} {g : α → β} {J : β → En X.K → Option ρ → Prop} (o : CallB X (.builtin id) t c fun x => some (g x)) (hm : X.mg x = none) (hv : bootBuiltins x = some (.builtin id))
    (h : EA X C Γ (e :: es) t r fun x Γ1 r1 => J (g x) Γ1 r1) (hg : Gl X x := by rfl) (hn : x ≠ "__name__" := by decide) (hdb : (x == ("__debug__" : Str)) = false := by decide)
    (he : starEach (e :: es) X.env = (false, eval e X.env) :: starEach es X.env := by rfl) (hpl : (backTo pos (starEach es X.env)).any (·.1) = false := by rfl) : EX X C Γ (.Call (.Name x p) (e :: es) [] pos) c r J := .mk fun z σ W H Q s hr k => by
  obtain ⟨rr, hc, hf⟩ := o
  exact w_pe (pe_callB hc hg hm hv pa_w hn hdb he hpl) (CallB.useT (f := .builtin id) hf h s hr k)
theorem ex_callTT {t : TC X.K α} {c : Cod X.K β} {g : α → β} {J : β → En X.K → Option ρ → Prop} (o : CallB X (.type T) t c fun x => some (g x)) (hm : X.mg x = none) (hv : bootBuiltins x = some (.type T))
    (h : EA X C Γ (e :: es) t r fun x Γ1 r1 => J (g x) Γ1 r1) (hg : Gl X x := by rfl) (hn : x ≠ "__name__" := by decide) (hdb : (x == ("__debug__" : Str)) = false := by decide)
    (he : starEach (e :: es) X.env = (false, eval e X.env) :: starEach es X.env := by rfl) (hpl : (backTo pos (starEach es X.env)).any (·.1) = false := by rfl) : EX X C Γ (.Call (.Name x p) (e :: es) [] pos) c r J := .mk fun z σ W H Q s hr k => by
  obtain ⟨rr, hc, hf⟩ := o
  exact w_pe (pe_callTy hc hg hm hv pa_w hn hdb he hpl) (CallB.useT (f := .type T) hf h s hr k)
theorem ex_callFT {t : TC X.K α} {c : Cod X.K β} {g : α → β} {J : β → En X.K → Option ρ → Prop} (o : CallB X (.builtin id) t c fun x => some (g x)) (hm : X.mg x = some (.builtin id))
    (h : EA X C Γ (e :: es) t r fun x Γ1 r1 => J (g x) Γ1 r1) (hg : Gl X x := by rfl) (hdb : (x == ("__debug__" : Str)) = false := by decide)
    (he : starEach (e :: es) X.env = (false, eval e X.env) :: starEach es X.env := by rfl) (hpl : (backTo pos (starEach es X.env)).any (·.1) = false := by rfl) : EX X C Γ (.Call (.Name x p) (e :: es) [] pos) c r J := .mk fun z σ W H Q s hr k => by
  obtain ⟨rr, hc, hf⟩ := o
  exact w_pe (pe_callBfun hc hg hm pa_w hdb he hpl) (CallB.useT (f := .builtin id) hf h s hr k)
theorem ef_callTT {t : TC X.K α} {c : Cel X.K β} {g : α → β} {J : β → En X.K → Option ρ → Prop} (o : CallN X (.type T) t c fun x => some (g x)) (hm : X.mg x = none) (hv : bootBuiltins x = some (.type T))
    (h : EA X C Γ (e :: es) t r fun x Γ1 r1 => J (g x) Γ1 r1) (hg : Gl X x := by rfl) (hn : x ≠ "__name__" := by decide) (hdb : (x == ("__debug__" : Str)) = false := by decide)
    (he : starEach (e :: es) X.env = (false, eval e X.env) :: starEach es X.env := by rfl) (hpl : (backTo pos (starEach es X.env)).any (·.1) = false := by rfl) : EF X C Γ (.Call (.Name x p) (e :: es) [] pos) c r J := .mk fun z σ W H Q s hr k => by
  obtain ⟨rr, hc, hf⟩ := o
  exact w_pe (pe_callTy hc hg hm hv pa_w hn hdb he hpl) (CallN.useT (f := .type T) hf h s hr k)
end

def popAtR (ys : List α) (i : Int) : Option (α × List α) := if ys.length ≤ 16777216 then popR ys i else none
/-! ### the shape at large, without a heap -/
def uInt (x : Int) : U := .int x
def uBool (x : Bool) : U := .bl x
def uStr (x : Str) : U := .str x
def uNon (_ : Unit) : U := .non
def uR0 (_ : Unit) : List U := []
def uR1 (f : α → U) (x : α) : List U := [f x]
def uRC (f : α → U) (g : β → List U) (x : α × β) : List U := f x.1 :: g x.2
def uTup (f : α → List U) (x : α) : U := .tup (f x)
def uSeq (f : α → U) (x : List α) : U := .tup (x.map f)
def uLst (f : α → U) (x : List α) : U := .lst (x.map f)
def uOpt (f : α → U) (x : Option α) : U := match x with | none => .non | some y => f y
/-! ### a tuple of things of one kind, read as a row -/
structure TSq {K : Frag} {α β : Type} (t : TC K α) (c : Cod K β) (g : α → List β) : Prop where
  ok : ∀ {H : Hp} {vs : List V} {x : α}, t.rp H vs x → Row c H vs (g x)
theorem tsq1 {K : Frag} {α : Type} {c : Cod K α} : TSq (tc1 c) c fun x => [x] := ⟨fun {H vs x} ⟨v, h, q⟩ => by subst h; exact .cons q .nil⟩
theorem tsqC {K : Frag} {α β : Type} {c : Cod K α} {t : TC K β} {g : β → List α} (h : TSq t c g) : TSq (tcC c t) c fun x => x.1 :: g x.2 := ⟨fun {H vs x} ⟨v, r, e, q, q2⟩ => by subst e; exact .cons q (h.ok q2)⟩
theorem ex_tsq {X : Cx} {C : Ct} {ρ α β : Type} {Γ : En X.K} {e : Expr} {r : Option ρ} {t : TC X.K α} {c : Cod X.K β} {g : α → List β} {J : List β → En X.K → Option ρ → Prop} (q : TSq t c g) (h : EX X C Γ e (cTup t) r fun x Γ' r' => J (g x) Γ' r') : EX X C Γ e (cSeq c) r J :=
  ex_as (c := cTup t) (c' := cSeq c) g (fun {H v x} h => by obtain ⟨a, vs, h1, h2, h3⟩ := h; exact ⟨a, vs, h1, h2, q.ok h3⟩) h
/-- a constant of the text: a tuple of strings -/
theorem cStrs {K : Frag} {W : Hp} {ad : Addr} {xs : List Str} (h : SqT K W ad (xs.map V.str)) : (cSeq cStr : Cod K (List Str)).rp W (.ref ad) xs := ⟨ad, _, rfl, h, by
  clear h
  induction xs with
  | nil => exact .nil
  | cons x xs ih => exact .cons rfl ih⟩

/-! ### facts of the head -/
def bltB (K : Frag) (x : Str) (id : String) : Bool := He.eqO (PySem.W.nsIn K mainGlobals x) (some (some (.builtin id)))
theorem bltB_ok {K : Frag} {h : Heap} {mg : Str → Option Value} (X : K.In h) (G : h.Ns mainGlobals mg) {x : Str} {id : String} (c : bltB K x id = true) : mg x = some (.builtin id) := PySem.W.mg_of X G (He.eqO_ok c)
def tupO (K : Frag) (x : Str) : Bool := match K.lookup (He.ga K x) with
  | some ⟨.type c, none, _, _⟩ => decide (c = "tuple")
  | _ => false
theorem tupO_ok {K : Frag} {h : Heap} {mg : Str → Option Value} (X : K.In h) (G : h.Ns mainGlobals mg) {x : Str} {vs : List V} (c : (He.Fa.glo x).ok K = true) (q : ∀ W, SqT K W (He.ga K x) vs) (t : tupO K x = true) :
    ∃ (ad : Addr) (o : Obj), mg x = some (.ref ad) ∧ (∀ W, SqT K W ad vs) ∧ (K.lookup ad = some o ∧ o.cls = .type "tuple" ∧ o.dict = none) := by
  unfold tupO at t
  cases e : K.lookup (He.ga K x) with
  | none => rw [e] at t; cases t
  | some o =>
    obtain ⟨oc, od, dt, osl⟩ := o
    rw [e] at t
    cases oc with
    | type c' =>
      cases od with
      | none =>
        have h1 : c' = "tuple" := of_decide_eq_true t
        subst h1
        exact ⟨_, _, He.glo_ok X G c, q, e, rfl, rfl⟩
      | some d => cases t
    | _ => cases od <;> cases t

theorem gk_stuck {X : Cx} {C : Ct} {ρ β : Type} {w : TS} {Γ : En X.K} {T : Go X.K ρ β} : GK X C w Γ none T := GK.mk fun z σ W H D s hr => nomatch hr
theorem bt_len : bootBuiltins "len" = some (.builtin "len") := by decide +kernel
theorem bt_abs : bootBuiltins "abs" = some (.builtin "abs") := by decide +kernel
theorem bt_max : bootBuiltins "max" = some (.builtin "max") := by decide +kernel
theorem bt_min : bootBuiltins "min" = some (.builtin "min") := by decide +kernel
theorem bt_sum : bootBuiltins "sum" = some (.builtin "sum") := by decide +kernel
theorem bt_all : bootBuiltins "all" = some (.builtin "all") := by decide +kernel
theorem bt_any : bootBuiltins "any" = some (.builtin "any") := by decide +kernel
theorem bt_isinstance : bootBuiltins "isinstance" = some (.builtin "isinstance") := by decide +kernel
theorem bt_int : bootBuiltins "int" = some (.type "int") := by decide +kernel
theorem bt_bool : bootBuiltins "bool" = some (.type "bool") := by decide +kernel
theorem bt_str : bootBuiltins "str" = some (.type "str") := by decide +kernel
theorem bt_list : bootBuiltins "list" = some (.type "list") := by decide +kernel
theorem bt_tuple : bootBuiltins "tuple" = some (.type "tuple") := by decide +kernel
theorem bt_range : bootBuiltins "range" = some (.type "range") := by decide +kernel
end Ty

set_option maxHeartbeats 4000000
namespace Ty
open PySem PySem.Spec PyProof.Rows L2
/-! ### sorted, sets of ints -/
def sortI (xs : List Int) : List Int := xs.mergeSort fun a b => decide (a ≤ b)
theorem sortI_perm (xs : List Int) : (sortI xs).Perm xs := List.mergeSort_perm ..
theorem sortI_le (xs : List Int) : (sortI xs).Pairwise (· ≤ ·) := by
  have h := List.pairwise_mergeSort (le := fun a b : Int => decide (a ≤ b)) (fun a b c h1 h2 => by simp only [decide_eq_true_eq] at *; omega) (fun a b => by simp only [Bool.or_eq_true, decide_eq_true_eq]; omega) xs
  exact h.imp fun h => of_decide_eq_true h
theorem perm_le_eq : ∀ {xs ys : List Int}, xs.Perm ys → xs.Pairwise (· ≤ ·) → ys.Pairwise (· ≤ ·) → xs = ys := fun h1 h2 h3 =>
  h1.eq_of_pairwise (le := (· ≤ ·)) (fun a b _ _ h1 h2 => Int.le_antisymm h1 h2) h2 h3
theorem sortI_eq {xs ys : List Int} (h : ys.Perm xs) (s : ys.Pairwise (· ≤ ·)) : ys = sortI xs := perm_le_eq (h.trans (sortI_perm xs).symm) s (sortI_le xs)
theorem sortI_mem {xs : List Int} {x : Int} : x ∈ sortI xs ↔ x ∈ xs := (sortI_perm xs).mem_iff
theorem sortI_len (xs : List Int) : (sortI xs).length = xs.length := (sortI_perm xs).length_eq
/-- what is in, without doubles, rising -/
def setI (xs : List Int) : List Int := sortI xs.eraseDups
theorem nodup_eraseDups : ∀ (n : Nat) (xs : List Int), xs.length ≤ n → xs.eraseDups.Nodup
  | _, [], _ => by simp
  | 0, _ :: _, h => by simp at h
  | n + 1, x :: xs, h => by
    rw [List.eraseDups_cons]
    refine List.nodup_cons.mpr ⟨fun q => ?_, nodup_eraseDups n _ (Nat.le_trans (List.length_filter_le ..) (by simpa using h))⟩
    have := List.mem_eraseDups.mp q
    simp at this
theorem setI_mem {xs : List Int} {x : Int} : x ∈ setI xs ↔ x ∈ xs := by unfold setI; rw [sortI_mem, List.mem_eraseDups]
theorem setI_lt (xs : List Int) : (setI xs).Pairwise (· < ·) := by
  have h1 := sortI_le xs.eraseDups
  have h2 : (setI xs).Nodup := (sortI_perm _).nodup_iff.mpr (nodup_eraseDups _ xs (Nat.le_refl _))
  exact (h1.and h2).imp fun ⟨a, b⟩ => by omega
theorem lt_unique {xs ys : List Int} (h1 : xs.Pairwise (· < ·)) (h2 : ys.Pairwise (· < ·)) (h : ∀ k, k ∈ xs ↔ k ∈ ys) : xs = ys := by
  refine perm_le_eq ?_ (h1.imp fun h => by omega) (h2.imp fun h => by omega)
  exact (List.perm_ext_iff_of_nodup (h1.imp fun h => by omega) (h2.imp fun h => by omega)).mpr h
theorem setI_eq {xs ys : List Int} (h1 : ys.Pairwise (· < ·)) (h : ∀ k, k ∈ ys ↔ k ∈ xs) : ys = setI xs := lt_unique h1 (setI_lt xs) fun k => by rw [h, setI_mem]
theorem len_eraseDups : ∀ (n : Nat) (xs : List Int), xs.length ≤ n → xs.eraseDups.length ≤ xs.length
  | _, [], _ => by simp
  | 0, _ :: _, h => by simp at h
  | n + 1, x :: xs, h => by
    have h1 : (xs.filter fun b => !b == x).length ≤ xs.length := List.length_filter_le ..
    have h2 : xs.length + 1 ≤ n + 1 := h
    have h3 := len_eraseDups n (xs.filter fun b => !b == x) (by omega)
    rw [List.eraseDups_cons, List.length_cons, List.length_cons]
    omega
theorem setI_len (xs : List Int) : (setI xs).length ≤ xs.length := by
  unfold setI
  rw [sortI_len]
  exact len_eraseDups _ xs (Nat.le_refl _)
def setR' (xs : List Int) : Option (List Int) := if xs.length < 63 then some (setI xs) else none
abbrev nSet (w : World) : Obj := { cls := .type "set", dict := none, data := .set #[] 0 (.fresh 0 0 (!w.params.followText "set-order")) }
section
variable {P : Program} {w : World} {A : Around} {E : Value → Shared → Prop} {s : Shared}
set_option maxHeartbeats 8000000 in
theorem set_of_lst {l : Addr} {items : Array Value} (ns : List Int) {Q : Value → Shared → Prop} (hh : A.handled = none) (hl : s.heap.IsList l items) (hit : IntsAre items.toList ns) (hb : ns.length + 1 < scanBound)
    (h : ∀ (h' : Heap) (tk c : Nat), SetR w h' s.heap.objs.size (fun j => decide (j ∈ ns)) c → c ≤ ns.length → (∀ b o, s.heap.get? b = some o → h'.get? b = some o) → Q (.ref s.heap.objs.size) { s with heap := h', toks := tk }) :
    wpAny (model P w) A (call (.type "set") [.ref l]) Q E s := by
  have hz : items.size = ns.length := by rw [← IntsAre.length hit, Array.length_toList]
  obtain ⟨_, _, hmro⟩ := PySem.F.called_set.mro
  have hmade := PySem.F.called_set.made
  have hsub := PySem.F.called_set.sub
  refine wpAny_call (codeAny_of_tree ?_)
  show wpAny _ _ (callAny (.type "set") _) _ _ _
  refine wpAny_pure ⟨Code.quiet_builtin _ (by decide +kernel), codeAny_builtin PySem.F.entry_type_call ?_⟩
  rw [Around.under_plain (weight_type_call_type "set" [.ref l] []) rfl]
  have c1 := PySem.F.called_set.notType
  have c2 := PySem.F.called_set.canCreate
  have c3 := PySem.F.typeCall_set_1 (.ref l)
  repeat (any_goals (first | assumption | wp_step))
  refine codeAny_mono (code_set_led1 (.ref l) (E := E) (Q₁ := fun v t => v = .ref s.heap.objs.size ∧ t = { s with heap := s.heap.push (nSet w) }) ⟨rfl, rfl⟩) fun r t hr => ?_
  cases r with
  | error e => exact hr
  | ok fl =>
    cases fl with
    | ret v =>
      obtain ⟨rfl, rfl⟩ := hr
      have g0 : (s.heap.push (nSet w)).get? s.heap.objs.size = some (nSet w) := Heap.get?_push_size _ rfl
      have hT : Shared.TypeIs { s with heap := s.heap.push (nSet w) } (.ref s.heap.objs.size) "set" := ⟨_, g0, rfl⟩
      have hli := PySem.F.called_set.init.lookup
      have hbi := PySem.F.called_set.init.bind (.ref s.heap.objs.size)
      repeat (any_goals (first | assumption | wp_step))
      refine codeAny_mono (codeAny_call_builtin (R := wants (fun r t => r = .none ∧ ∃ h' tk c, t = { s with heap := h', toks := tk } ∧ SetR w h' s.heap.objs.size (fun j => decide (j ∈ ns)) c ∧ c ≤ ns.length ∧
          (∀ b o, s.heap.get? b = some o → h'.get? b = some o)) E) PySem.F.called_set.init.plain PySem.F.entry_set_init (check_set_init_1 hT ?_)) fun r t hr => ?_
      · obtain ⟨ol, hol, hcl, nl, hdl⟩ := hl
        obtain ⟨oc, od, dt, osl⟩ := ol
        simp only at hcl hdl
        subst hcl; subst hdl
        have hl1 : (s.heap.push (nSet w)).IsList l items := ⟨_, Heap.get?_push_of_some _ hol, rfl, nl, rfl⟩
        have q1 : (s.heap.push (nSet w)).get? l = _ := Heap.get?_push_of_some _ hol
        have q2 := PySem.F.sub_list_set
        have q3 := PySem.F.sub_list_frozenset
        have q4 : (Value.type "list" == Value.type "dict") = false := by decide
        unfold Builtin.«set.__init__» noKeywords Builtin.Frozenset.updateFrom
        generalize hPI : pyIter = PI
        wp_walk
        subst hPI
        refine wpAny_pyIter_list hl1 (wpAny_bind (wpAny_runValue ?_))
        have lt : l < s.heap.objs.size := Heap.lt_size hol
        have hh3 : A.in1.in1.in1.handled = none := by simp [hh]
        have z1 : (s.heap.push (nSet w)).objs.size = s.heap.objs.size + 1 := Heap.size_push ..
        have neI : l ≠ (s.heap.push (nSet w)).objs.size := by rw [z1]; exact Nat.ne_of_lt (Nat.lt_succ_of_lt lt)
        have nf : s.heap.objs.size ∉ [(s.heap.push (nSet w)).objs.size, l] := by
          rw [z1]
          intro q
          simp only [List.mem_cons, List.not_mem_nil, or_false] at q
          rcases q with q | q
          · exact absurd q (Nat.ne_of_lt (Nat.lt_succ_self _))
          · exact absurd q (Nat.ne_of_gt lt)
        have val : ∀ (i : Nat) (v : Value), items[i]? = some v → ∃ k t, ns[i]? = some k ∧ v = .int k t := fun i v hv => by
          have hi : i < ns.length := by rw [← hz]; exact (Array.getElem?_eq_some_iff.mp hv).1
          obtain ⟨t, e⟩ := PyProof.Rows.IntsAre.int_at hit i v (by rw [Array.getElem?_toList]; exact hv)
          refine ⟨ns[i], t, List.getElem?_eq_getElem hi, ?_⟩
          rw [e, List.getD_eq_getElem?_getD, List.getElem?_eq_getElem hi] <;> rfl
        refine set_update_ints ((Walks.list hh3 _ l neI items).toS) s.heap.objs.size nf ns hz hb val (items.size - 0) 0 _ (by omega) (Nat.zero_le _) ⟨⟨_, Heap.get?_push_size _ rfl, rfl, rfl⟩, hl1.push _⟩ ?_ ?_
        · exact ⟨0, Nat.le_refl 0, setR_new_at (Heap.get?_push_of_some _ g0)⟩
        · intro t c mv hc R
          obtain ⟨h', g2, d', tk', os'⟩ := t
          have e1 : g2 = s.gens := mv.gens
          have e2 : d' = s.drawn := mv.drawn
          have e3 : os' = s.os := mv.os
          subst e1; subst e2; subst e3
          show wpAny _ _ _ _ _ _
          refine wpAny_pure ?_
          show wpAny _ _ (ret Value.none) _ _ _
          rw [hz] at hc
          refine wpAny_pure ⟨rfl, h', tk', c, rfl, R, hc, fun b o e => ?_⟩
          have b0 : b < s.heap.objs.size := Heap.lt_size e
          refine mv.heap b o (fun q => ?_) (Heap.get?_push_of_some _ (Heap.get?_push_of_some _ e))
          simp only [List.mem_cons, List.not_mem_nil, or_false] at q
          rw [z1] at q
          rcases q with q | q
          · exact absurd q (Nat.ne_of_lt b0)
          · exact absurd q (Nat.ne_of_lt (Nat.lt_succ_of_lt b0))
      · cases r with
        | error e => exact hr
        | ok fl2 =>
          cases fl2 with
          | ret r =>
            obtain ⟨rfl, h', tk, c, rfl, R, hc, kk⟩ := hr
            repeat (any_goals (first | assumption | wp_step))
            exact h _ _ _ R hc kk
          | _ => exact hr.elim
    | _ => exact hr.elim
end
section
variable {X : Cx} {C : Ct} {ρ α β : Type} {Γ : En X.K} {e a b : Expr} {r : Option ρ} {pos p p2 p3 : Pos}
/-- set(a list of ints) -/
def rSetL (K : Frag) (w : World) : List V → Hp → VK → Prop := fun vs H Q => ∃ (l : Addr) (ns : List Int), vs = [V.ref l] ∧ SqL K H l (ns.map V.int) ∧ ns.length + 1 < scanBound ∧
  ∀ (p : Addr) (c : Nat), c ≤ ns.length → H p = none → Q (.ref p) (upd H p (SetO w p (fun j => decide (j ∈ ns)) c))
theorem cr_setL (hc : X.calm = true) : CallR X (.type "set") (rSetL X.K X.w) := by
  intro pins s σ H xs us Q I r h
  obtain ⟨l, ns, rfl, hl, hb, q⟩ := h
  rw [Vals.ref1 r]
  obtain ⟨its, rv, pl, hz⟩ := I.list hl
  refine set_of_lst (P := X.prog) ns (I.ok.hd hc) pl.isList (by simpa using rv.ints) hb fun h' tk c R hcn k => ?_
  exact ⟨.ref s.heap.objs.size, _, I.laid (t' := tk) k (Nat.le_refl _) (setO_new R), rfl, q _ c hcn (I.hok.fresh (Nat.le_refl _))⟩
theorem n_sorted : CallN X (.builtin "sorted") (tc1 (cLst cInt)) (lstC cInt) fun x => some (sortI x) := ⟨_, cr_sortedI, fun W H vs x z Q sb h e k => by
  obtain ⟨v, rfl, ad, ws, rfl, h2, h3⟩ := h; cases e
  rw [h3.ints] at h2
  exact ⟨ad, x, rfl, SqL.of (sb _ _ h2), fun ns' p pm le hp => k p _ hp ⟨_, rfl, by rw [sortI_eq pm le]; exact Row.of_ints _⟩⟩⟩
theorem n_sortedS : CallN X (.builtin "sorted") (tc1 (cSeq cInt)) (lstC cInt) fun x => (none : Option (List Int)) := ⟨fun _ _ _ => False, fun _ _ _ _ _ _ _ _ _ h => h.elim, fun W H vs x z Q sb h e k => nomatch e⟩
theorem ef_callBT {x : Str} {id : String} {es : List Expr} {t : TC X.K α} {c : Cel X.K β} {g : α → β} {J : β → En X.K → Option ρ → Prop} (o : CallN X (.builtin id) t c fun x => some (g x)) (hm : X.mg x = none) (hv : bootBuiltins x = some (.builtin id))
    (h : EA X C Γ (e :: es) t r fun x Γ1 r1 => J (g x) Γ1 r1) (hg : Gl X x := by rfl) (hn : x ≠ "__name__" := by decide) (hdb : (x == ("__debug__" : Str)) = false := by decide)
    (he : starEach (e :: es) X.env = (false, eval e X.env) :: starEach es X.env := by rfl) (hpl : (backTo pos (starEach es X.env)).any (·.1) = false := by rfl) : EF X C Γ (.Call (.Name x p) (e :: es) [] pos) c r J := .mk fun z σ W H Q s hr k => by
  obtain ⟨rr, hc, hf⟩ := o
  exact w_pe (pe_callB hc hg hm hv pa_w hn hdb he hpl) (CallN.useT (f := .builtin id) hf h s hr k)
theorem bt_sorted : bootBuiltins "sorted" = some (.builtin "sorted") := by decide +kernel
theorem bt_set : bootBuiltins "set" = some (.type "set") := by decide +kernel
theorem bt_reversed : bootBuiltins "reversed" = some (.type "reversed") := by decide +kernel
/-- sorted(set(e)) -/
theorem ef_sortSet {J : List Int → En X.K → Option ρ → Prop} (hcalm : X.calm = true) (hm : X.mg "sorted" = none) (hm2 : X.mg "set" = none)
    (h : EX X C Γ a (cLst cInt) r fun x Γ1 r1 => ∃ k, r1 = setR' x >>= k ∧ ∀ z, J z Γ1 (k z)) (hg : Gl X "sorted" := by rfl) (hg2 : Gl X "set" := by rfl)
    (na : starEach [a] X.env = (false, eval a X.env) :: starEach [] X.env := by rfl)
    (na2 : starEach [.Call (.Name "set" p2) [a] [] p3] X.env = (false, eval (.Call (.Name "set" p2) [a] [] p3) X.env) :: starEach [] X.env := by rfl) :
    EF X C Γ (.Call (.Name "sorted" p) [.Call (.Name "set" p2) [a] [] p3] [] pos) (lstC cInt) r J := .mk fun z σ W H Q s hr k =>
  w_pe (pe_callB (cr_sortedSet hcalm) hg hm bt_sorted (pa_cons (pe_callTy (cr_setL hcalm) hg2 hm2 bt_set (pa_cons pe_w pa_nil na) (by decide) (by decide) na rfl) pa_nil na2) (by decide) (by decide) na2 rfl)
    (h z σ W H _ s hr fun x Γ1 r1 W1 H1 v j1 hr1 s1 w1 q1 => by
      obtain ⟨k2, e2, j2⟩ := j1
      rw [e2] at hr1
      obtain ⟨t, et, ht⟩ := bind_some hr1
      unfold setR' at et
      split at et
      · rename_i hl
        cases et
        obtain ⟨ad, ws, rfl, h2, h3⟩ := q1
        rw [h3.ints] at h2
        refine ⟨ad, x, rfl, SqL.of (s1.sub _ _ h2), by unfold scanBound; omega, fun q c hc hq => ⟨q, _, c, rfl, upd_same, by omega, fun ns q2 lt mem hlen hq2 => ?_⟩⟩
        have en : ns = setI x := setI_eq lt fun k => by rw [mem]; simp
        have G : Grow W1 H1 W1 (upd H1 q (SetO X.w q (fun j => decide (j ∈ x)) c)) := ⟨Same.refl _, fun b u e => by rw [upd_ne (ne_of_none e hq)]; exact e, fun b u e => by
          have := s1.sub _ _ e
          rw [upd_ne (ne_of_none this hq)]; exact this, fun _ _ h => h⟩
        have s2 := s1.grow G
        obtain ⟨s3, wl, cl, ap, la⟩ := s2.fresh (o := .lst (ns.map V.int)) hq2
        exact k _ Γ1 _ W1 _ q2 _ (j2 _) ht s3 w1 wl cl upd_same ⟨_, rfl, by rw [en]; exact Row.of_ints _⟩ ap la
      · cases et)
/-! ### a dict of the text -/
def dkR (kvs : List (Str × α)) (z : Str) : Option α := kvs.lookup z
theorem ex_kd {c : Cod X.K α} {kvs : List (Str × α)} {n : Str} {ad : Addr} {J : α → En X.K → Option ρ → Prop} (hm : X.mg n = some (.ref ad)) (hk : ∀ z x, dkR kvs z = some x → ∃ v, KDct X.K X.w ad z v ∧ ∀ W, c.rp W v x)
    (h : EX X C Γ e cStr r fun z Γ1 r1 => ∃ k, r1 = dkR kvs z >>= k ∧ ∀ y, J y Γ1 (k y)) (hg : Gl X n := by rfl) (hd : (n == ("__debug__" : Str)) = false := by decide) (hp : PlainIx e := by exact fun _ _ => rfl) :
    EX X C Γ (.Subscript (.Name n p) e pos) c r J := .mk fun z σ W H Q s hr k =>
  w_pe (pe_ix ix_kdict (pe_glob hg hm (show RelV (V.ref ad) (Value.ref ad) from rfl) hd) pe_w hp) (h z σ W H _ s hr fun x Γ1 r1 W1 H1 v j1 hr1 s1 w1 q1 => by
    obtain ⟨k2, e2, j2⟩ := j1
    rw [e2] at hr1
    obtain ⟨t, et, ht⟩ := bind_some hr1
    obtain ⟨u, hu, hc⟩ := hk x t et
    exact ⟨ad, x, u, rfl, q1, hu, k t Γ1 _ W1 H1 u (j2 t) ht s1 w1 (hc W1)⟩)
end
end Ty

set_option maxHeartbeats 4000000
namespace Ty
open PySem PySem.Spec PyProof.Rows L2
theorem lookup_mem' {α : Type} {z : Str} {x : α} : ∀ {l : List (Str × α)}, l.lookup z = some x → (z, x) ∈ l
  | [], h => by cases h
  | (k, y) :: l, h => by
    unfold List.lookup at h
    split at h
    · rename_i q
      cases h
      rw [beq_iff_eq.mp q]
      exact List.mem_cons_self
    · exact List.mem_cons_of_mem _ (lookup_mem' h)
/-- a dict of the text: texts to ints -/
theorem kdI_ok {w : World} {K : Frag} {h : Heap} {mg : Str → Option Value} (X : K.In h) (G : h.Ns mainGlobals mg) {x : Str} {kvs : List (Str × Int)} (c : (He.Fa.glo x).ok K = true) (d : ∃ es n, KDict K w (He.ga K x) es n)
    (q : He.valsB K (He.ga K x) (kvs.map fun p => (p.1, He.Dv.int p.2)) = true) :
    ∃ ad : Addr, mg x = some (.ref ad) ∧ ∀ z y, dkR kvs z = some y → ∃ v, KDct K w ad z v ∧ ∀ W, (cInt : Cod K Int).rp W v y := by
  obtain ⟨es, n, D⟩ := d
  refine ⟨_, He.glo_ok X G c, fun z y e => ?_⟩
  have m := lookup_mem' (show kvs.lookup z = some y from e)
  obtain ⟨u, h1, h2⟩ := He.valsB_ok q (q := (z, He.Dv.int y)) (List.mem_map.mpr ⟨_, m, rfl⟩)
  exact ⟨.int y, ⟨es, n, u, D.at_, D.lit, h1, h2⟩, fun _ => rfl⟩
section
variable {X : Cx} {C : Ct} {ρ α β : Type} {Γ : En X.K} {e a b : Expr} {r : Option ρ} {x : Str} {pos p p2 p3 : Pos}
theorem ex_call0 {c : Cod X.K β} {f : Unit → Option β} {J : β → En X.K → Option ρ → Prop} {k : Nat} {ps : List Str} (F : FnP X.prog X.w X.K X.mg X.base x k ps (spP X.K tc0 f c)) (hr : Room k X.A)
    (h : ∃ k, r = f () >>= k ∧ ∀ z, J z Γ (k z)) (hg : Gl X x := by rfl) (hdb : (x == ("__debug__" : Str)) = false := by decide) : EX X C Γ (.Call (.Name x p) [] [] pos) c r J := .mk fun z σ W H Q s hrr kk => by
  obtain ⟨fa, fd, h1, h2, h3, h4⟩ := F.ex
  refine w_pe (pe_call0 h4 hr hg h1 h2 h3 .nil pass0 hdb) ?_
  obtain ⟨k2, e2, j2⟩ := h
  rw [e2] at hrr
  obtain ⟨t2, et, ht⟩ := bind_some hrr
  exact ⟨W, (), s.sub, rfl, t2, et, fun W2 H2 v G q2 => kk t2 Γ _ W2 H2 v (j2 t2) ht (s.grow G) G.w q2⟩
theorem ef_call0 {c : Cel X.K β} {f : Unit → Option β} {J : β → En X.K → Option ρ → Prop} {k : Nat} {ps : List Str} (F : FnP X.prog X.w X.K X.mg X.base x k ps (spN X.K tc0 f c)) (hr : Room k X.A)
    (h : ∃ k, r = f () >>= k ∧ ∀ z, J z Γ (k z)) (hg : Gl X x := by rfl) (hdb : (x == ("__debug__" : Str)) = false := by decide) : EF X C Γ (.Call (.Name x p) [] [] pos) c r J := .mk fun z σ W H Q s hrr kk => by
  obtain ⟨fa, fd, h1, h2, h3, h4⟩ := F.ex
  refine w_pe (pe_call0 h4 hr hg h1 h2 h3 .nil pass0 hdb) ?_
  obtain ⟨k2, e2, j2⟩ := h
  rw [e2] at hrr
  obtain ⟨t2, et, ht⟩ := bind_some hrr
  refine ⟨W, (), s.sub, rfl, t2, et, fun W2 H2 p o G wp hp h2p ct => ?_⟩
  have cp : C.H p = none := by
    cases q : C.H p with
    | none => rfl
    | some u => exact absurd hp (s.li p (by rw [q]; simp))
  exact kk t2 Γ _ W2 H2 p o (j2 t2) ht (s.grow G) G.w wp cp h2p ct (s.apart hp) fun z => s.lb p (.inr z) hp
end
end Ty

set_option maxHeartbeats 4000000
/-! what the laws' own draws do, in plain Lean -/
namespace Ty
open PySem L2
def m_law_tape (a_script : (List Int)) : Option Tape :=
 forS a_script (7 : Int) (fun x2 (s1 : Int) => mulR s1 (31 : Int) >>= fun v3 =>
 fmodR (v3 + (absI x2)) (2147483647 : Int) >>= fun v4 =>
 some v4) >>= fun s1 =>
 some (⟨a_script, (0 : Int), (0 : Int), s1⟩)
def m_law_draw (tp : Tape) (a_many : Int) : Option (Int × Tape) :=
 (cond (decide ((tp.fld 2) = (0 : Int))) (lt (tp.fld 1) fun place_2 =>
 (cond (decide (place_2 < (tp.cells.length : Int))) (atI tp.cells place_2 >>= fun v4 =>
 lt (absI v4) fun number_5 =>
 some (number_5, tp)) (mulR (tp.fld 3) (48271 : Int) >>= fun v6 =>
 fmodR ((v6 + place_2) + (1 : Int)) (2147483647 : Int) >>= fun v7 =>
 lt ((tp.put 3 v7).fld 3) fun number_9 =>
 some (number_9, (tp.put 3 v7)))) >>= fun s3 =>
 powR (10 : Int) (18 : Int) >>= fun v11 =>
 cond (decide (s3.1 < v11)) (mulR s3.1 (48271 : Int) >>= fun v12 =>
 mulR place_2 (69621 : Int) >>= fun v13 =>
 fmodR ((v12 + v13) + (5 : Int)) (2147483647 : Int) >>= fun v14 =>
 mulR v14 (69621 : Int) >>= fun v15 =>
 fmodR v15 (2147483629 : Int) >>= fun v16 =>
 fmodR v16 (maxI a_many (1 : Int)) >>= fun v17 =>
 some (.rt (v17, (s3.2.put 1 (place_2 + (1 : Int)))))) (some (.nx ((s3.2.put 1 (place_2 + (1 : Int))).put 2 s3.1)))) (some (.nx tp)) : Option (Fl Tape (Int × Tape))) >>= (fun o => match o with
 | .nx s1 => lt (s1.fld 2) fun number_19 =>
 fdivR number_19 (maxI a_many (2 : Int)) >>= fun v20 =>
 fmodR number_19 (maxI a_many (1 : Int)) >>= fun v22 =>
 some (v22, (s1.put 2 v20))
 | .rt x => some x
 | .bk _ => none
 | .ct _ => none)
def m_law_pick {Aa : Type} (tp : Tape) (a_menu : (List Aa)) : Option (Aa × Tape) :=
 m_law_draw tp (a_menu.length : Int) >>= fun v1 =>
 atI a_menu v1.1 >>= fun v2 =>
 some (v2, v1.2)
def m_law_turns (tp : Tape) (a_many : Int) : Option ((List Int) × Tape) :=
 rng1 a_many >>= fun v1 =>
 rng1 a_many >>= fun v2 =>
 forS v2 (v1, ([] : (List Int)), tp) (fun x4 (s3 : ((List Int) × (List Int) × Tape)) => m_law_draw s3.2.2 (s3.1.length : Int) >>= fun v5 =>
 popAtR s3.1 v5.1 >>= fun v6 =>
 pushR s3.2.1 v6.1 >>= fun v7 =>
 some (v6.2, v7.2, v5.2)) >>= fun s3 =>
 m_law_draw s3.2.2 (3 : Int) >>= fun v8 =>
 atI ([a_many, a_many, (1 : Int)]) v8.1 >>= fun v9 =>
 some ((cutR s3.2.1 none (some v9)), v8.2)
def m_law_put (a_told : (List U)) (a_place : Int) (a_thing : U) : Option (List U) :=
 catR (cutR a_told none (some a_place)) ([a_thing]) >>= fun v1 =>
 catR v1 (cutR a_told (some (a_place + (1 : Int))) none) >>= fun v2 =>
 some v2
def m_law_same : Nat → U → U → Option Bool
  | 0, _, _ => none
  | fuel + 1, a_told, a_wanted =>
   isU "tuple" a_wanted >>= fun v1 =>
 cond v1 (isU "tuple" a_told >>= fun v2 =>
 (cond (!v2) (some true) (U.len a_told >>= fun v3 =>
 U.len a_wanted >>= fun v4 =>
 some (!decide (v3 = v4)))) >>= fun c5 =>
 cond c5 (some false) (U.len a_wanted >>= fun v6 =>
 rng1 v6 >>= fun v7 =>
 (forF v7 () (fun x9 (s8 : Unit) => U.get a_told x9 >>= fun v10 =>
 U.get a_wanted x9 >>= fun v11 =>
 m_law_same fuel v10 v11 >>= fun v12 =>
 cond (!v12) (some (.rt false)) (some (.nx ()))) : Option (Fl Unit Bool)) >>= (fun o => match o with
 | .nx s8 => some true
 | .rt x => some x
 | .bk _ => none
 | .ct _ => none))) (U.isNon a_wanted >>= fun v13 =>
 (cond v13 (some true) (U.isNon a_told >>= fun v14 =>
 some v14)) >>= fun c15 =>
 cond c15 (U.isNon a_wanted >>= fun v16 =>
 (cond v16 (U.isNon a_told >>= fun v17 =>
 some v17) (some false)) >>= fun c18 =>
 some c18) (isU "str" a_wanted >>= fun v19 =>
 cond v19 (isU "str" a_told >>= fun v20 =>
 (cond v20 (U.eq a_told a_wanted >>= fun v21 =>
 some v21) (some false)) >>= fun c22 =>
 some c22) (isU "bool" a_told >>= fun v23 =>
 isU "bool" a_wanted >>= fun v24 =>
 (cond (!decide (v23 = v24)) (some true) (isU "int" a_told >>= fun v25 =>
 some (!v25))) >>= fun c26 =>
 cond c26 (some false) (U.eq a_told a_wanted >>= fun v27 =>
 some v27))))
def m_law_low (a_n : Int) (a_d : Int) : Option (Int × Int) :=
 lt (absI a_n) fun a_1 =>
 lt (absI a_d) fun b_2 =>
 (whl (b_2.toNat + 1) (a_1, b_2) (fun (s3 : (Int × Int)) => cond (decide ((0 : Int) < s3.2)) (fmodR s3.1 s3.2 >>= fun v4 =>
 some (.nx (s3.2, v4))) (some (.bk s3))) : Option (Fl (Int × Int) (Int × Int))) >>= (fun o => match o with
 | .nx s3 => (cond (decide (a_d < (0 : Int))) (lt ((0 : Int) - s3.1) fun a_6 =>
 some a_6) (some s3.1)) >>= fun s5 =>
 fdivR a_n s5 >>= fun v7 =>
 fdivR a_d s5 >>= fun v8 =>
 some (v7, v8)
 | .rt x => some x
 | .bk _ => none
 | .ct _ => none)
/-! ### goes, with such a value -/
def Ok {α : Type} (m : Option α) (P : α → Prop) : Prop := ∃ v, m = some v ∧ P v
section
variable {α β γ : Type}
theorem Ok.bind {m : Option α} {k : α → Option β} {P : α → Prop} {Q : β → Prop} (h : Ok m P) (hk : ∀ v, P v → Ok (k v) Q) : Ok (m >>= k) Q := by
  obtain ⟨v, rfl, p⟩ := h; exact hk v p
theorem Ok.ret {v : α} {P : α → Prop} (p : P v) : Ok (some v) P := ⟨v, rfl, p⟩
theorem Ok.cond {b : Bool} {x y : Option α} {P : α → Prop} (h1 : b = true → Ok x P) (h2 : b = false → Ok y P) : Ok (cond b x y) P := by
  cases b; exact h2 rfl; exact h1 rfl
theorem Ok.lt {v : α} {k : α → Option β} {P : β → Prop} (h : Ok (k v) P) : Ok (lt v k) P := h
theorem Ok.imp {m : Option α} {P Q : α → Prop} (h : Ok m P) (i : ∀ v, P v → Q v) : Ok m Q := by
  obtain ⟨v, e, p⟩ := h; exact ⟨v, e, i v p⟩
theorem ok_forS {S : Type} (I : Nat → S → Prop) {f : α → S → Option S} : ∀ (xs : List α) (n : Nat) (s : S), I n s → (∀ i x s, x ∈ xs → n ≤ i → i < n + xs.length → I i s → Ok (f x s) (I (i + 1))) → Ok (forS xs s f) (I (n + xs.length))
  | [], n, s, h, _ => ⟨s, rfl, h⟩
  | x :: xs, n, s, h, hf => by
    show Ok (f x s >>= fun s' => forS xs s' f) _
    refine (hf n x s (List.mem_cons_self ..) (Nat.le_refl _) (by simp) h).bind fun s' h' => ?_
    have := ok_forS I xs (n + 1) s' h' fun i y t hy h1 h2 => hf i y t (List.mem_cons_of_mem _ hy) (by omega) (by simp only [List.length_cons]; omega)
    rw [List.length_cons, show n + (xs.length + 1) = n + 1 + xs.length by omega]
    exact this
theorem ok_mapR {f : α → Option β} {P : β → Prop} : ∀ (xs : List α), (∀ x ∈ xs, Ok (f x) P) → Ok (mapR f xs) (fun ys => ys.length = xs.length ∧ ∀ y ∈ ys, P y)
  | [], _ => ⟨[], rfl, rfl, fun _ h => nomatch h⟩
  | x :: xs, h => by
    show Ok (f x >>= fun y => mapR f xs >>= fun ys => some (y :: ys)) _
    refine (h x (List.mem_cons_self ..)).bind fun y py => (ok_mapR xs fun z hz => h z (List.mem_cons_of_mem _ hz)).bind fun ys ⟨l, q⟩ => Ok.ret ⟨by simp [l], ?_⟩
    intro z hz
    rcases List.mem_cons.mp hz with rfl | hz
    · exact py
    · exact q z hz
theorem ok_mapS {S : Type} (I : Nat → S → Prop) {P : β → Prop} {f : α → S → Option (β × S)} : ∀ (xs : List α) (n : Nat) (s : S), I n s → (∀ i x s, x ∈ xs → n ≤ i → i < n + xs.length → I i s → Ok (f x s) (fun r => P r.1 ∧ I (i + 1) r.2)) →
    Ok (mapS f xs s) (fun r => r.1.length = xs.length ∧ (∀ y ∈ r.1, P y) ∧ I (n + xs.length) r.2)
  | [], n, s, h, _ => ⟨([], s), rfl, rfl, (fun _ h => nomatch h), h⟩
  | x :: xs, n, s, h, hf => by
    show Ok (f x s >>= fun y => mapS f xs y.2 >>= fun ys => some (y.1 :: ys.1, ys.2)) _
    refine (hf n x s (List.mem_cons_self ..) (Nat.le_refl _) (by simp) h).bind fun y ⟨py, h'⟩ => ?_
    refine (ok_mapS I xs (n + 1) y.2 h' fun i z t hz h1 h2 => hf i z t (List.mem_cons_of_mem _ hz) (by omega) (by simp only [List.length_cons]; omega)).bind fun ys ⟨l, q, r⟩ => Ok.ret ⟨by simp [l], ?_, ?_⟩
    · intro z hz
      rcases List.mem_cons.mp hz with rfl | hz
      · exact py
      · exact q z hz
    · rw [List.length_cons, show n + (xs.length + 1) = n + 1 + xs.length by omega]
      exact r
end
/-! ### numbers -/
theorem log2_small {x : Int} {k : Nat} (h : x.natAbs < 2 ^ (k + 1)) : x.natAbs.log2 ≤ k := by
  by_cases h0 : x.natAbs = 0
  · rw [h0]; simp
  · have := (Nat.log2_lt h0 (k := k + 1)).mpr h
    omega
theorem mulR_b {x y : Int} (hx : x.natAbs.log2 < 400000) (hy : y.natAbs.log2 < 400000) : mulR x y = some (x * y) := if_pos (by omega)
theorem mulR_s {x y : Int} (hx : x.natAbs < 2 ^ 250) (hy : y.natAbs < 2 ^ 250) : mulR x y = some (x * y) := mulR_b (by have := log2_small (k := 249) hx; omega) (by have := log2_small (k := 249) hy; omega)
theorem fdivR_s {x y : Int} (h0 : y ≠ 0) (hy : y.natAbs < 2 ^ 250) : fdivR x y = some (x.fdiv y) := if_pos ⟨h0, by have := log2_small (k := 249) hy; omega⟩
theorem fmodR_s {x y : Int} (h0 : y ≠ 0) : fmodR x y = some (x.fmod y) := if_pos h0
theorem ok_mul {x y : Int} {P : Int → Prop} (hx : x.natAbs < 2 ^ 250) (hy : y.natAbs < 2 ^ 250) (p : P (x * y)) : Ok (mulR x y) P := ⟨_, mulR_s hx hy, p⟩
theorem ok_div {x y : Int} {P : Int → Prop} (h0 : y ≠ 0) (hy : y.natAbs < 2 ^ 250) (p : P (x.fdiv y)) : Ok (fdivR x y) P := ⟨_, fdivR_s h0 hy, p⟩
theorem ok_mod {x y : Int} {P : Int → Prop} (h0 : 0 < y) (p : ∀ m, 0 ≤ m → m < y → m = x.fmod y → P m) : Ok (fmodR x y) P :=
  ⟨_, fmodR_s (by omega), p _ (Int.fmod_nonneg_of_pos x h0) (Int.fmod_lt_of_pos x h0) rfl⟩
theorem ok_atI {xs : List α} {i : Int} {P : α → Prop} (h0 : 0 ≤ i) (h1 : i < xs.length) (p : ∀ x, xs[i.toNat]? = some x → P x) : Ok (atI xs i) P := by
  obtain ⟨k, rfl⟩ := Int.eq_ofNat_of_zero_le h0
  have hk : k < xs.length := by omega
  refine ⟨xs[k], ?_, p _ (by simp [hk])⟩
  unfold atI ixN
  rw [if_pos h0, if_pos h1]
  simp [hk]
/-! ### draws -/
def Good (n : Nat) (t : Tape) : Prop := 0 ≤ t.place ∧ t.place ≤ n ∧ 0 ≤ t.rest ∧ 0 ≤ t.mixed ∧ t.mixed < 2147483647
theorem Good.mono {n m : Nat} {t : Tape} (g : Good n t) (h : n ≤ m) : Good m t := ⟨g.1, by have := g.2.1; omega, g.2.2⟩
theorem ok_draw {n : Nat} {t : Tape} {many : Int} (g : Good n t) (hn : n < 1000000000) (hm : many < 2 ^ 200) : Ok (m_law_draw t many) fun x => 0 ≤ x.1 ∧ x.1 < max many 1 ∧ Good (n + 1) x.2 := by
  obtain ⟨g1, g2, g3, g4, g5⟩ := g
  unfold m_law_draw
  have mx1 : maxI many 1 = max many 1 := by unfold maxI; split <;> omega
  have mx2 : maxI many 2 = max many 2 := by unfold maxI; split <;> omega
  rw [mx1, mx2]
  have p18 : powR 10 18 = some 1000000000000000000 := by decide
  refine Ok.bind (P := fun o => match o with
    | .nx t => 0 ≤ t.place ∧ t.place ≤ n + 1 ∧ 0 ≤ t.rest ∧ 0 ≤ t.mixed ∧ t.mixed < 2147483647
    | .rt x => 0 ≤ x.1 ∧ x.1 < max many 1 ∧ Good (n + 1) x.2
    | .bk _ => False
    | .ct _ => False) (Ok.cond (fun _ => ?_) (fun _ => ?_)) ?_
  · refine Ok.lt (Ok.bind (P := fun x => 0 ≤ x.1 ∧ x.2.place = t.place ∧ 0 ≤ x.2.rest ∧ 0 ≤ x.2.mixed ∧ x.2.mixed < 2147483647) (Ok.cond (fun h => ?_) (fun _ => ?_)) ?_)
    · have h := of_decide_eq_true h
      refine Ok.bind (ok_atI (P := fun _ => True) g1 h fun _ _ => trivial) fun v _ => Ok.lt (Ok.ret ⟨?_, rfl, g3, g4, g5⟩)
      unfold absI; split <;> omega
    · refine Ok.bind (ok_mul (P := fun _ => True) (x := t.mixed) (by omega) (by decide) trivial) fun v _ => ?_
      refine Ok.bind (ok_mod (P := fun m => 0 ≤ m ∧ m < 2147483647) (by decide) fun m h1 h2 _ => ⟨h1, h2⟩) fun m hm' => Ok.lt (Ok.ret ⟨hm'.1, rfl, g3, hm'.1, hm'.2⟩)
    · rintro ⟨x, t'⟩ ⟨h1, h2, h3, h4, h5⟩
      rw [p18]
      show Ok (cond (decide (x < 1000000000000000000)) _ _) _
      refine Ok.cond (fun h => ?_) (fun _ => ?_)
      · have h := of_decide_eq_true h
        refine Ok.bind (ok_mul (P := fun _ => True) (by omega) (by decide) trivial) fun v _ => ?_
        refine Ok.bind (ok_mul (P := fun _ => True) (x := t.place) (by omega) (by decide) trivial) fun v _ => ?_
        refine Ok.bind (ok_mod (P := fun m => 0 ≤ m ∧ m < 2147483647) (by decide) fun m h1 h2 _ => ⟨h1, h2⟩) fun m hm' => ?_
        refine Ok.bind (ok_mul (P := fun _ => True) (by omega) (by decide) trivial) fun v _ => ?_
        refine Ok.bind (ok_mod (P := fun _ => True) (by decide) fun m h1 h2 _ => trivial) fun m _ => ?_
        refine Ok.bind (ok_mod (P := fun m => 0 ≤ m ∧ m < max many 1) (by omega) fun m h1 h2 _ => ⟨h1, h2⟩) fun m hm' => Ok.ret ⟨hm'.1, hm'.2, ?_, ?_, h3, h4, h5⟩
        · show 0 ≤ t.place + 1; omega
        · show t.place + 1 ≤ ((n + 1 : Nat) : Int); omega
      · refine Ok.ret ⟨?_, ?_, h1, h4, h5⟩
        · show 0 ≤ t.place + 1; omega
        · show t.place + 1 ≤ (n : Int) + 1; omega
  · exact Ok.ret ⟨g1, by omega, g3, g4, g5⟩
  · intro o
    cases o with
    | nx s =>
      rintro ⟨h1, h2, h3, h4, h5⟩
      refine Ok.lt (Ok.bind (ok_div (P := fun q => 0 ≤ q) (by omega) (by omega) (Int.fdiv_nonneg h3 (by omega))) fun q hq => ?_)
      refine Ok.bind (ok_mod (P := fun m => 0 ≤ m ∧ m < max many 1) (by omega) fun m h1 h2 _ => ⟨h1, h2⟩) fun m hm' => Ok.ret ⟨hm'.1, hm'.2, h1, ?_, hq, h4, h5⟩
      show s.place ≤ ((n + 1 : Nat) : Int); omega
    | rt x => intro h; exact Ok.ret h
    | bk s => intro h; exact h.elim
    | ct s => intro h; exact h.elim
theorem ok_pick {α : Type} {n : Nat} {t : Tape} {menu : List α} (g : Good n t) (hn : n < 1000000000) (h0 : 0 < menu.length) (h1 : menu.length < 2 ^ 100) : Ok (m_law_pick t menu) fun x => x.1 ∈ menu ∧ Good (n + 1) x.2 := by
  unfold m_law_pick
  refine (ok_draw g hn (by omega)).bind fun v ⟨a, b, c⟩ => ?_
  refine (ok_atI (P := fun x => x ∈ menu) a (by omega) fun x h => List.mem_of_getElem? h).bind fun x hx => Ok.ret ⟨hx, c⟩
theorem ok_tape (ns : List Int) : Ok (m_law_tape ns) (Good 0) := by
  unfold m_law_tape
  refine (ok_forS (fun _ s => 0 ≤ s ∧ s < 2147483647) ns 0 7 (by decide) fun i x s _ _ _ hs => ?_).bind fun s hs => Ok.ret ⟨Int.le_refl 0, Int.le_refl 0, Int.le_refl 0, hs.1, hs.2⟩
  refine Ok.bind (ok_mul (P := fun _ => True) (by omega) (by decide) trivial) fun v _ => ?_
  exact Ok.bind (ok_mod (P := fun m => 0 ≤ m ∧ m < 2147483647) (by decide) fun m h1 h2 _ => ⟨h1, h2⟩) fun m hm' => Ok.ret hm'
theorem ok_rng1 {k : Int} {P : List Int → Prop} (h : CRng k) (p : P (rangeI 0 k)) : Ok (rng1 k) P := ⟨_, if_pos h, p⟩
theorem mem_rangeI {lo hi x : Int} (h : x ∈ rangeI lo hi) : lo ≤ x ∧ x < hi := by
  unfold rangeI at h
  simp only [List.mem_map, List.mem_range] at h
  obtain ⟨j, hj, rfl⟩ := h
  omega
theorem len_rangeI {lo hi : Int} : (rangeI lo hi).length = (hi - lo).toNat := by simp [rangeI]
theorem ok_popAt {α : Type} {ys : List α} {i : Int} {P : α × List α → Prop} (h : ys.length ≤ 16777216) (h0 : 0 ≤ i) (h1 : i < ys.length) (p : ∀ x, x ∈ ys → P (x, ys.eraseIdx i.toNat)) : Ok (popAtR ys i) P := by
  unfold popAtR popR ixN
  rw [if_pos h, if_pos h0, if_pos h1]
  have hk : i.toNat < ys.length := by omega
  refine ⟨(ys[i.toNat], ys.eraseIdx i.toNat), ?_, p _ (List.getElem_mem hk)⟩
  simp [hk]
theorem ok_push {α : Type} {ys : List α} {x : α} {P : Unit × List α → Prop} (h : ys.length < 16000000) (p : P ((), ys ++ [x])) : Ok (pushR ys x) P := ⟨_, if_pos h, p⟩
theorem ok_cat {α : Type} {x y : List α} {P : List α → Prop} (h : x.length + y.length ≤ 16000000) (p : P (x ++ y)) : Ok (catR x y) P := ⟨_, if_pos h, p⟩
theorem mem_cutR {α : Type} {xs : List α} {lo hi : Option Int} {x : α} (h : x ∈ cutR xs lo hi) : x ∈ xs := List.mem_of_mem_drop (List.mem_of_mem_take h)
theorem ok_turns {n : Nat} {t : Tape} {many : Int} (g : Good n t) (hn : n < 900000000) (h0 : 0 ≤ many) (h1 : many ≤ 1000000) : Ok (m_law_turns t many) fun x => (∀ k ∈ x.1, 0 ≤ k ∧ k < many) ∧ Good (n + many.toNat + 1) x.2 := by
  unfold m_law_turns
  have hc : CRng many := by unfold CRng; omega
  refine (ok_rng1 (P := fun r => r = rangeI 0 many) hc rfl).bind fun v1 e1 => (ok_rng1 (P := fun r => r = rangeI 0 many) hc rfl).bind fun v2 e2 => ?_
  subst e1 e2
  refine (ok_forS (fun i (s : List Int × List Int × Tape) => s.1.length + i = many.toNat ∧ (∀ k ∈ s.1, 0 ≤ k ∧ k < many) ∧ (∀ k ∈ s.2.1, 0 ≤ k ∧ k < many) ∧ s.2.1.length = i ∧ Good (n + i) s.2.2) (rangeI 0 many) 0 (rangeI 0 many, [], t) ⟨by show (rangeI 0 many).length + 0 = _; rw [len_rangeI]; simp, fun k hk => by have := mem_rangeI hk; exact this, (fun k hk => nomatch hk), rfl, g⟩ ?_).bind ?_
  · rintro i x ⟨rest, turns, t'⟩ _ _ hi ⟨a, b, c, d, e⟩
    rw [len_rangeI] at hi
    have a' : rest.length + i = many.toNat := a
    have hl : 0 < rest.length := by omega
    refine (ok_draw e (by omega) (by show (rest.length : Int) < _; omega)).bind fun v ⟨p1, p2, p3⟩ => ?_
    have p2 : v.1 < max (rest.length : Int) 1 := p2
    refine (ok_popAt (P := fun y => (0 ≤ y.1 ∧ y.1 < many) ∧ y.2.length + 1 = rest.length ∧ ∀ k ∈ y.2, 0 ≤ k ∧ k < many) (by show rest.length ≤ _; omega) p1 (by show v.1 < (rest.length : Int); omega) fun y hy => ⟨b y hy, ?_, fun k hk => b k (List.mem_of_mem_eraseIdx hk)⟩).bind fun y ⟨q1, q2, q3⟩ => ?_
    · show (rest.eraseIdx v.1.toNat).length + 1 = rest.length
      rw [List.length_eraseIdx]
      split <;> omega
    · have d' : turns.length = i := d
      refine (ok_push (P := fun z => z.2 = turns ++ [y.1]) (by show turns.length < _; omega) rfl).bind fun z hz => Ok.ret ⟨?_, q3, ?_, ?_, p3⟩
      · show y.2.length + (i + 1) = many.toNat; omega
      · intro k hk
        have hk : k ∈ z.2 := hk
        rw [hz] at hk
        rcases List.mem_append.mp hk with h | h
        · exact c k h
        · rw [List.mem_singleton.mp h]; exact q1
      · show z.2.length = i + 1
        rw [hz]; simp [d']
  · rintro ⟨rest, turns, t'⟩ ⟨a, b, c, d, e⟩
    rw [len_rangeI, show (many - 0).toNat = many.toNat by simp] at e
    have e : Good (n + many.toNat) t' := by simpa using e
    refine (ok_draw e (by omega) (by decide)).bind fun v ⟨p1, p2, p3⟩ => ?_
    refine (ok_atI (P := fun _ => True) p1 (by show v.1 < 3; have p2 : v.1 < max 3 1 := p2; omega) fun _ _ => trivial).bind fun w _ => Ok.ret ⟨fun k hk => c k (mem_cutR hk), p3⟩
/-! ### lowest terms -/
/-- the sign of the second, the divisor of both -/
def sgR (n d : Int) : Int := if d < 0 then -(gcdI n d) else gcdI n d
def lowR (n d : Int) : Option (Int × Int) := fdivR n (sgR n d) >>= fun a => fdivR d (sgR n d) >>= fun b => some (a, b)
theorem whl_gcd (ρ : Type) : ∀ (fuel a b : Nat), b < fuel → (whl fuel ((a : Int), (b : Int)) (fun (s3 : (Int × Int)) => cond (decide ((0 : Int) < s3.2)) (fmodR s3.1 s3.2 >>= fun v4 => some (.nx (s3.2, v4))) (some (.bk s3))) : Option (Fl (Int × Int) ρ)) = some (.nx ((Nat.gcd a b : Int), 0))
  | 0, _, _, h => by omega
  | fuel + 1, a, b, h => by
    unfold whl
    by_cases hb : b = 0
    · subst hb
      show (some (Fl.nx ((a : Int), ((0 : Nat) : Int))) : Option (Fl (Int × Int) ρ)) = _
      simp
    · have hd : decide ((0 : Int) < ((a : Int), (b : Int)).2) = true := decide_eq_true (by show (0 : Int) < b; omega)
      dsimp only
      rw [hd]
      show ((fmodR (a : Int) (b : Int) >>= fun v4 => some (Fl.nx ((b : Int), v4))) >>= _) = _
      rw [fmodR_s (by omega)]
      show whl fuel ((b : Int), (a : Int).fmod b) _ = _
      rw [show (a : Int).fmod b = ((a % b : Nat) : Int) by rw [Int.fmod_eq_emod_of_nonneg _ (by omega)]; rfl]
      rw [whl_gcd ρ fuel b (a % b) (by have := Nat.mod_lt a (Nat.pos_of_ne_zero hb); omega)]
      rw [show Nat.gcd a b = Nat.gcd b (a % b) by rw [Nat.gcd_comm a b, Nat.gcd_rec b a, Nat.gcd_comm]]
theorem absI_nat (x : Int) : absI x = (x.natAbs : Int) := by unfold absI; split <;> omega
theorem low_eq (n d : Int) : m_law_low n d = lowR n d := by
  unfold m_law_low lt
  dsimp only
  rw [absI_nat, absI_nat, show ((d.natAbs : Int)).toNat = d.natAbs by simp]
  rw [whl_gcd (Int × Int) (d.natAbs + 1) n.natAbs d.natAbs (by omega)]
  show ((cond (decide (d < 0)) (some (0 - (Nat.gcd n.natAbs d.natAbs : Int))) (some (Nat.gcd n.natAbs d.natAbs : Int))) >>= fun s5 => fdivR n s5 >>= fun v7 => fdivR d s5 >>= fun v8 => some (v7, v8)) = _
  unfold lowR sgR gcdI
  by_cases h : d < 0
  · rw [if_pos h, show decide (d < 0) = true from decide_eq_true h, Int.zero_sub]; rfl
  · rw [if_neg h, show decide (d < 0) = false from decide_eq_false h]; rfl
theorem gcdI_pos {n d : Int} (h : d ≠ 0) : 0 < gcdI n d := by
  unfold gcdI
  have : 0 < Nat.gcd n.natAbs d.natAbs := Nat.gcd_pos_of_pos_right _ (by omega)
  omega
theorem gcdI_dvd (n d : Int) : gcdI n d ∣ n ∧ gcdI n d ∣ d := by
  unfold gcdI
  exact ⟨Int.ofNat_dvd_left.mpr (Nat.gcd_dvd_left ..), Int.ofNat_dvd_left.mpr (Nat.gcd_dvd_right ..)⟩
theorem gcdI_le {n d : Int} (h : d ≠ 0) : gcdI n d ≤ d.natAbs := by
  unfold gcdI
  have := Nat.gcd_le_right (n := d.natAbs) n.natAbs (by omega)
  omega
/-- the value in lowest terms -/
def lowV (n d : Int) : Int × Int := (n.fdiv (sgR n d), d.fdiv (sgR n d))
theorem lowR_eq {n d : Int} (h : d ≠ 0) (hd : d.natAbs < 2 ^ 250) : lowR n d = some (lowV n d) := by
  have g := gcdI_pos (n := n) h
  have l := gcdI_le (n := n) h
  have s0 : sgR n d ≠ 0 := by unfold sgR; split <;> omega
  have s1 : (sgR n d).natAbs < 2 ^ 250 := by unfold sgR; split <;> omega
  unfold lowR
  rw [fdivR_s s0 s1, fdivR_s s0 s1]; rfl
theorem lowV_mul {n d : Int} (h : d ≠ 0) : (lowV n d).1 * sgR n d = n ∧ (lowV n d).2 * sgR n d = d := by
  obtain ⟨h1, h2⟩ := gcdI_dvd n d
  have d1 : sgR n d ∣ n := by unfold sgR; split; exact Int.neg_dvd.mpr h1; exact h1
  have d2 : sgR n d ∣ d := by unfold sgR; split; exact Int.neg_dvd.mpr h2; exact h2
  exact ⟨Int.fdiv_mul_cancel d1, Int.fdiv_mul_cancel d2⟩
theorem lowV_pos {n d : Int} (h : d ≠ 0) : 0 < (lowV n d).2 := by
  have g := gcdI_pos (n := n) h
  have m := (lowV_mul (n := n) h).2
  unfold sgR at m
  by_cases hd : d < 0
  · rw [if_pos hd] at m
    refine Int.not_le.mp fun q => ?_
    have : 0 ≤ (lowV n d).2 * -gcdI n d := Int.mul_nonneg_of_nonpos_of_nonpos q (by omega)
    omega
  · rw [if_neg hd] at m
    refine Int.not_le.mp fun q => ?_
    have : (lowV n d).2 * gcdI n d ≤ 0 := Int.mul_nonpos_of_nonpos_of_nonneg q (by omega)
    omega
theorem lowV_le {n d : Int} (h : d ≠ 0) : (lowV n d).1.natAbs ≤ n.natAbs ∧ (lowV n d).2.natAbs ≤ d.natAbs := by
  have g := gcdI_pos (n := n) h
  obtain ⟨m1, m2⟩ := lowV_mul (n := n) h
  have s1 : 1 ≤ (sgR n d).natAbs := by unfold sgR; split <;> omega
  constructor
  · calc (lowV n d).1.natAbs ≤ (lowV n d).1.natAbs * (sgR n d).natAbs := Nat.le_mul_of_pos_right _ s1
      _ = n.natAbs := by rw [← Int.natAbs_mul, m1]
  · calc (lowV n d).2.natAbs ≤ (lowV n d).2.natAbs * (sgR n d).natAbs := Nat.le_mul_of_pos_right _ s1
      _ = d.natAbs := by rw [← Int.natAbs_mul, m2]
theorem ok_low {n d : Int} {P : Int × Int → Prop} (h : d ≠ 0) (hd : d.natAbs < 2 ^ 250) (p : P (lowV n d)) : Ok (m_law_low n d) P := ⟨_, by rw [low_eq, lowR_eq h hd], p⟩
theorem ok_forF {α S ρ : Type} (I : S → Prop) {f : α → S → Option (Fl S ρ)} : ∀ (xs : List α) (s : S), I s → (∀ x s, x ∈ xs → I s → Ok (f x s) (fun o => ∃ s', o = .nx s' ∧ I s')) → Ok (forF xs s f) (fun o => ∃ s', o = .nx s' ∧ I s')
  | [], s, h, _ => ⟨_, rfl, s, rfl, h⟩
  | x :: xs, s, h, hf => by
    obtain ⟨o, e, s', rfl, h'⟩ := hf x s (List.mem_cons_self ..) h
    rw [forF, e]
    exact ok_forF I xs s' h' fun y t hy ht => hf y t (List.mem_cons_of_mem _ hy) ht
/-! ### the same, told twice -/
def Plain : Nat → U → Prop
  | 0, _ => False
  | n + 1, .tup l => l.length ≤ 8000000 ∧ ∀ x ∈ l, Plain n x
  | _ + 1, .lst _ => False
  | _ + 1, .opq => False
  | _ + 1, .non => True
  | _ + 1, .bl _ => True
  | _ + 1, .int _ => True
  | _ + 1, .str _ => True
theorem same_ok : ∀ (n : Nat) (u : U), Plain n u → m_law_same n u u = some true
  | 0, _, h => h.elim
  | n + 1, .non, _ => rfl
  | n + 1, .bl b, _ => by cases b <;> rfl
  | n + 1, .int i, _ => by
    show some (decide (i = i)) = some true
    simp
  | n + 1, .str i, _ => by
    show some (decide (i = i)) = some true
    simp
  | n + 1, .lst _, h => h.elim
  | n + 1, .opq, h => h.elim
  | n + 1, .tup l, h => by
    obtain ⟨h1, h2⟩ := h
    show ((cond (!true) (some true) (some (!decide ((l.length : Int) = (l.length : Int))))) >>= fun c5 => cond c5 (some false) (rng1 (l.length : Int) >>= fun v7 => (forF v7 () (fun x9 (s8 : Unit) => U.get (.tup l) x9 >>= fun v10 => U.get (.tup l) x9 >>= fun v11 => m_law_same n v10 v11 >>= fun v12 =>
      cond (!v12) (some (.rt false)) (some (.nx ()))) : Option (Fl Unit Bool)) >>= (fun o => match o with
        | .nx s8 => some true
        | .rt x => some x
        | .bk _ => none
        | .ct _ => none))) = _
    rw [show (!decide ((l.length : Int) = (l.length : Int))) = false by simp]
    show (rng1 (l.length : Int) >>= _) = _
    rw [show rng1 (l.length : Int) = some (rangeI 0 l.length) from if_pos (by unfold CRng; omega)]
    obtain ⟨o, e, s', rfl, _⟩ := ok_forF (ρ := Bool) (fun (_ : Unit) => True) (f := fun x9 (s8 : Unit) => U.get (.tup l) x9 >>= fun v10 => U.get (.tup l) x9 >>= fun v11 => m_law_same n v10 v11 >>= fun v12 =>
      cond (!v12) (some (.rt false)) (some (.nx ()))) (rangeI 0 l.length) () trivial fun x s hx _ => by
        obtain ⟨a, b⟩ := mem_rangeI hx
        obtain ⟨v, ev, hv⟩ := ok_atI (xs := l) (P := fun y => y ∈ l) a b fun y hy => List.mem_of_getElem? hy
        have eg : U.get (.tup l) x = some v := ev
        rw [eg]
        show Ok (m_law_same n v v >>= _) _
        rw [same_ok n v (h2 v hv)]
        exact ⟨_, rfl, (), rfl, trivial⟩
    show (forF (rangeI 0 l.length) () _ >>= _) = _
    rw [e]; rfl
theorem ok_forI {α S : Type} (I : Nat → S → Prop) {f : α → S → Option S} : ∀ (xs : List α) (n : Nat) (s : S), I n s → (∀ j x s, xs[j]? = some x → I (n + j) s → Ok (f x s) (I (n + j + 1))) → Ok (forS xs s f) (I (n + xs.length))
  | [], n, s, h, _ => ⟨s, rfl, h⟩
  | x :: xs, n, s, h, hf => by
    show Ok (f x s >>= fun s' => forS xs s' f) _
    refine (hf 0 x s rfl h).bind fun s' h' => ?_
    have := ok_forI I xs (n + 1) s' h' fun j y t hy ht => by
      have := hf (j + 1) y t (by simpa using hy) (by rw [show n + (j + 1) = n + 1 + j by omega]; exact ht)
      rw [show n + (j + 1) + 1 = n + 1 + j + 1 by omega] at this
      exact this
    rw [List.length_cons, show n + (xs.length + 1) = n + 1 + xs.length by omega]
    exact this
theorem dSeqs_ok {α : Type} {d : U → Option α} {u : α → U} (h : ∀ x, d (u x) = some x) : ∀ xs : List α, dSeq d (uSeq u xs) = some xs := by
  intro xs
  show mapR d (xs.map u) = some xs
  induction xs with
  | nil => rfl
  | cons x xs ih =>
    show (d (u x) >>= fun y => mapR d (xs.map u) >>= fun ys => some (y :: ys)) = _
    rw [h x, ih]; rfl
theorem mapR_map {α β γ : Type} (f : β → Option γ) (u : α → β) : ∀ xs : List α, mapR f (xs.map u) = mapR (fun x => f (u x)) xs
  | [] => rfl
  | x :: xs => by
    show (f (u x) >>= fun y => mapR f (xs.map u) >>= fun ys => some (y :: ys)) = _
    rw [mapR_map f u xs]; rfl
theorem mapR_congr {α β : Type} {f g : α → Option β} : ∀ {xs : List α}, (∀ x ∈ xs, f x = g x) → mapR f xs = mapR g xs
  | [], _ => rfl
  | x :: xs, h => by
    show (f x >>= fun y => mapR f xs >>= fun ys => some (y :: ys)) = (g x >>= fun y => mapR g xs >>= fun ys => some (y :: ys))
    rw [h x (List.mem_cons_self ..), mapR_congr fun y hy => h y (List.mem_cons_of_mem _ hy)]
theorem dSeqU {l : List U} : dSeq some (.tup l) = some l := by
  show mapR some l = some l
  induction l with
  | nil => rfl
  | cons x xs ih =>
    show (some x >>= fun y => mapR some xs >>= fun ys => some (y :: ys)) = _
    rw [ih]; rfl
end Ty

set_option maxHeartbeats 4000000
/-! fractions in lowest terms, boxes: plain Lean -/
namespace Ty
open PySem L2
def m_lowest (a_n : Int) (a_d : Int) : Option (Int × Int) :=
 lt (gcdI a_n a_d) fun divisor_1 =>
 (cond (decide (a_d < (0 : Int))) (some (-divisor_1)) (some divisor_1)) >>= fun s2 =>
 fdivR a_n s2 >>= fun v3 =>
 fdivR a_d s2 >>= fun v4 =>
 some (v3, v4)
def m_plus (a_p : (Int × Int)) (a_q : (Int × Int)) : Option (Int × Int) :=
 mulR a_p.1 a_q.2 >>= fun v1 =>
 mulR a_q.1 a_p.2 >>= fun v2 =>
 mulR a_p.2 a_q.2 >>= fun v3 =>
 m_lowest (v1 + v2) v3 >>= fun v4 =>
 some v4
def m_minus (a_p : (Int × Int)) (a_q : (Int × Int)) : Option (Int × Int) :=
 mulR a_p.1 a_q.2 >>= fun v1 =>
 mulR a_q.1 a_p.2 >>= fun v2 =>
 mulR a_p.2 a_q.2 >>= fun v3 =>
 m_lowest (v1 - v2) v3 >>= fun v4 =>
 some v4
def m_is_less (a_p : (Int × Int)) (a_q : (Int × Int)) : Option Bool :=
 mulR a_p.1 a_q.2 >>= fun v1 =>
 mulR a_q.1 a_p.2 >>= fun v2 =>
 some (decide (v1 < v2))
def m_is_wide_box (a_box : ((Int × Int) × (Int × Int) × (Int × Int) × (Int × Int))) : Option Bool :=
 m_is_less a_box.1 a_box.2.2.1 >>= fun v1 =>
 (cond v1 (m_is_less a_box.2.1 a_box.2.2.2 >>= fun v2 =>
 some v2) (some false)) >>= fun c3 =>
 some c3
def m_boxes_lap (a_box : ((Int × Int) × (Int × Int) × (Int × Int) × (Int × Int))) (a_other : ((Int × Int) × (Int × Int) × (Int × Int) × (Int × Int))) : Option Bool :=
 m_is_wide_box a_box >>= fun v1 =>
 (cond (!v1) (m_is_wide_box a_other >>= fun v2 =>
 some (!v2)) (some false)) >>= fun c3 =>
 cond c3 (some false) (m_is_less a_box.1 a_other.2.2.1 >>= fun v4 =>
 (cond v4 (m_is_less a_other.1 a_box.2.2.1 >>= fun v5 =>
 some v5) (some false)) >>= fun c6 =>
 (cond c6 (m_is_less a_box.2.1 a_other.2.2.2 >>= fun v7 =>
 (cond v7 (m_is_less a_other.2.1 a_box.2.2.2 >>= fun v8 =>
 some v8) (some false)) >>= fun c9 =>
 some c9) (some false)) >>= fun c10 =>
 some c10)
def m_law_point (a_boxes : (List (Int × Int × Int × Int))) (a_x : Int) (a_y : Int) : Option Bool :=
 (forF a_boxes () (fun x2 (s1 : Unit) => cond ((decide (x2.1 ≤ a_x)) && ((decide (a_x ≤ x2.2.2.1)) && ((decide (x2.2.1 ≤ a_y)) && (decide (a_y ≤ x2.2.2.2))))) (some (.rt true)) (some (.nx ()))) : Option (Fl Unit Bool)) >>= (fun o => match o with
 | .nx s1 => some false
 | .rt x => some x
 | .bk _ => none
 | .ct _ => none)
def m_law_covered (a_boxes : (List (Int × Int × Int × Int))) (a_x : Int) (a_y : Int) : Option Bool :=
 (forF a_boxes () (fun x2 (s1 : Unit) => mulR (2 : Int) x2.1 >>= fun v3 =>
 (cond (decide (v3 < a_x)) (mulR (2 : Int) x2.2.2.1 >>= fun v4 =>
 (cond (decide (a_x < v4)) (mulR (2 : Int) x2.2.1 >>= fun v5 =>
 (cond (decide (v5 < a_y)) (mulR (2 : Int) x2.2.2.2 >>= fun v6 =>
 some (decide (a_y < v6))) (some false)) >>= fun c7 =>
 some c7) (some false)) >>= fun c8 =>
 some c8) (some false)) >>= fun c9 =>
 cond c9 (some (.rt true)) (some (.nx ()))) : Option (Fl Unit Bool)) >>= (fun o => match o with
 | .nx s1 => some false
 | .rt x => some x
 | .bk _ => none
 | .ct _ => none)
def m_law_inner (a_boxes : (List (Int × Int × Int × Int))) (a_x : Int) (a_y : Int) : Option Bool :=
 (forF ([((1 : Int), (1 : Int)), ((-(1 : Int)), (1 : Int)), ((1 : Int), (-(1 : Int))), ((-(1 : Int)), (-(1 : Int)))]) () (fun x2 (s1 : Unit) => mulR (2 : Int) a_x >>= fun v3 =>
 mulR (2 : Int) a_y >>= fun v4 =>
 m_law_covered a_boxes (v3 + x2.1) (v4 + x2.2) >>= fun v5 =>
 cond (!v5) (some (.rt false)) (some (.nx ()))) : Option (Fl Unit Bool)) >>= (fun o => match o with
 | .nx s1 => some true
 | .rt x => some x
 | .bk _ => none
 | .ct _ => none)
def m_law_cuts (a_boxes : (List (Int × Int × Int × Int))) (a_low : Int) : Option (List Int) :=
 mapR (fun x1 => atI ([x1.1, x1.2.1, x1.2.2.1, x1.2.2.2]) a_low >>= fun v2 =>
 some v2) a_boxes >>= fun ys3 =>
 mapR (fun x4 => atI ([x4.1, x4.2.1, x4.2.2.1, x4.2.2.2]) (a_low + (2 : Int)) >>= fun v5 =>
 some v5) a_boxes >>= fun ys6 =>
 catR ys3 ys6 >>= fun v7 =>
 setR' v7 >>= fun v8 =>
 rng1 ((v8.length : Int) - (1 : Int)) >>= fun v9 =>
 mapR (fun x10 => atI v8 x10 >>= fun v11 =>
 atI v8 (x10 + (1 : Int)) >>= fun v12 =>
 fdivR (v11 + v12) (2 : Int) >>= fun v13 =>
 some v13) v9 >>= fun ys14 =>
 catR v8 ys14 >>= fun v15 =>
 some v15
def m_law_few (a_boxes : (List (Int × Int × Int × Int))) : Option (List (Int × Int)) :=
 m_law_cuts a_boxes (1 : Int) >>= fun v1 =>
 m_law_cuts a_boxes (0 : Int) >>= fun v2 =>
 forS v2 ([] : (List (Int × Int))) (fun x4 (s3 : (List (Int × Int))) => forS v1 s3 (fun x6 (s5 : (List (Int × Int))) => pushR s5 (x4, x6) >>= fun v7 =>
 some v7.2) >>= fun s5 =>
 some s5) >>= fun s3 =>
 some s3
def m_law_lap (a_one : (List (Int × Int × Int × Int))) (a_two : (List (Int × Int × Int × Int))) : Option Bool :=
 cond ((decide ((a_one.length : Int) = (1 : Int))) && (decide ((a_two.length : Int) = (1 : Int)))) (atI a_one (0 : Int) >>= fun v1 =>
 atI a_two (0 : Int) >>= fun v2 =>
 cond (((decide (v1.1 = v1.2.2.1)) || (decide (v1.2.1 = v1.2.2.2))) && ((decide (v2.1 = v2.2.2.1)) || (decide (v2.2.1 = v2.2.2.2)))) (some false) (some ((decide (v1.1 < v2.2.2.1)) && ((decide (v2.1 < v1.2.2.1)) && ((decide (v1.2.1 < v2.2.2.2)) && (decide (v2.2.1 < v1.2.2.2))))))) (catR a_one a_two >>= fun v3 =>
 m_law_few v3 >>= fun v4 =>
 (forF v4 () (fun x6 (s5 : Unit) => m_law_point a_one x6.1 x6.2 >>= fun v7 =>
 (cond v7 (m_law_inner a_two x6.1 x6.2 >>= fun v8 =>
 some v8) (some false)) >>= fun c9 =>
 cond c9 (some (.rt true)) (m_law_point a_two x6.1 x6.2 >>= fun v10 =>
 (cond v10 (m_law_inner a_one x6.1 x6.2 >>= fun v11 =>
 some v11) (some false)) >>= fun c12 =>
 cond c12 (some (.rt true)) (some (.nx ())))) : Option (Fl Unit Bool)) >>= (fun o => match o with
 | .nx s5 => some false
 | .rt x => some x
 | .bk _ => none
 | .ct _ => none))
/-! ### lowest terms -/
theorem lowest_eq (n d : Int) : m_lowest n d = lowR n d := by
  unfold m_lowest lt lowR sgR
  by_cases h : d < 0
  · rw [if_pos h, show decide (d < 0) = true from decide_eq_true h]; rfl
  · rw [if_neg h, show decide (d < 0) = false from decide_eq_false h]; rfl
theorem lowest_low : m_lowest = m_law_low := by funext n d; rw [lowest_eq, low_eq]
theorem lowV_cop {n d : Int} (h : d ≠ 0) : Nat.Coprime (lowV n d).1.natAbs (lowV n d).2.natAbs := by
  obtain ⟨m1, m2⟩ := lowV_mul (n := n) h
  have g := gcdI_pos (n := n) h
  have s : (sgR n d).natAbs = Nat.gcd n.natAbs d.natAbs := by
    unfold sgR gcdI; split <;> omega
  have e1 : (lowV n d).1.natAbs * Nat.gcd n.natAbs d.natAbs = n.natAbs := by rw [← s, ← Int.natAbs_mul, m1]
  have e2 : (lowV n d).2.natAbs * Nat.gcd n.natAbs d.natAbs = d.natAbs := by rw [← s, ← Int.natAbs_mul, m2]
  have p : 0 < Nat.gcd n.natAbs d.natAbs := by unfold gcdI at g; omega
  have e3 := Nat.gcd_mul_right (lowV n d).1.natAbs (Nat.gcd n.natAbs d.natAbs) (lowV n d).2.natAbs
  rw [e1, e2] at e3
  exact Nat.eq_of_mul_eq_mul_right p (by rw [← e3]; omega)
theorem low_uniq {a b a' b' : Int} (hb : 0 < b) (hb' : 0 < b') (c : Nat.Coprime a.natAbs b.natAbs) (c' : Nat.Coprime a'.natAbs b'.natAbs) (e : a * b' = a' * b) : a = a' ∧ b = b' := by
  have e1 : a.natAbs * b'.natAbs = a'.natAbs * b.natAbs := by rw [← Int.natAbs_mul, ← Int.natAbs_mul, e]
  have d1 : b.natAbs ∣ b'.natAbs := c.symm.dvd_of_dvd_mul_left (e1 ▸ Nat.dvd_mul_left ..)
  have d2 : b'.natAbs ∣ b.natAbs := c'.symm.dvd_of_dvd_mul_left (e1 ▸ Nat.dvd_mul_left ..)
  have e2 := Nat.dvd_antisymm d1 d2
  have e3 : b = b' := by omega
  subst e3
  exact ⟨Int.eq_of_mul_eq_mul_right (by omega) e, rfl⟩
theorem lowV_eq {n d n' d' : Int} (h : d ≠ 0) (h' : d' ≠ 0) (e : n * d' = n' * d) : lowV n d = lowV n' d' := by
  obtain ⟨m1, m2⟩ := lowV_mul (n := n) h
  obtain ⟨m3, m4⟩ := lowV_mul (n := n') h'
  have s1 : sgR n d ≠ 0 := fun z => by rw [z, Int.mul_zero] at m2; exact h m2.symm
  have s2 : sgR n' d' ≠ 0 := fun z => by rw [z, Int.mul_zero] at m4; exact h' m4.symm
  have key : (lowV n d).1 * (lowV n' d').2 = (lowV n' d').1 * (lowV n d).2 := by
    refine Int.eq_of_mul_eq_mul_right (a := sgR n d * sgR n' d') (Int.mul_ne_zero s1 s2) ?_
    grind
  obtain ⟨u1, u2⟩ := low_uniq (lowV_pos h) (lowV_pos h') (lowV_cop h) (lowV_cop h') key
  exact Prod.ext u1 u2
/-- equal fractions have equal cross products -/
theorem lowV_cross {n d n' d' : Int} (h : d ≠ 0) (h' : d' ≠ 0) (e : lowV n d = lowV n' d') : n * d' = n' * d := by
  obtain ⟨m1, m2⟩ := lowV_mul (n := n) h
  obtain ⟨m3, m4⟩ := lowV_mul (n := n') h'
  rw [e] at m1 m2
  grind
abbrev B100 (x : Int) : Prop := x.natAbs < 2 ^ 100
theorem ok_lowest {n d : Int} {P : Int × Int → Prop} (h : d ≠ 0) (hd : d.natAbs < 2 ^ 250) (p : P (lowV n d)) : Ok (m_lowest n d) P := by rw [lowest_low]; exact ok_low h hd p
section
variable {u x y : Int}
theorem lowV_b (hu : 0 < u) (bx : B100 x) (bu : B100 u) : B100 (lowV x u).1 ∧ B100 (lowV x u).2 := by
  obtain ⟨a, b⟩ := lowV_le (n := x) (d := u) (by omega)
  exact ⟨Nat.lt_of_le_of_lt a bx, Nat.lt_of_le_of_lt b bu⟩
theorem b200 {a b : Int} (ha : B100 a) (hb : B100 b) : (a * b).natAbs < 2 ^ 200 := by
  rw [Int.natAbs_mul]
  exact Nat.lt_of_lt_of_le (Nat.mul_lt_mul'' ha hb) (by decide)
theorem b100_250 {a : Int} (h : B100 a) : a.natAbs < 2 ^ 250 := Nat.lt_trans h (by decide)
theorem plus_fr (hu : 0 < u) (bx : B100 x) (by' : B100 y) (bu : B100 u) : m_plus (lowV x u) (lowV y u) = some (lowV (x + y) u) := by
  obtain ⟨p1, p2⟩ := lowV_b hu bx bu
  obtain ⟨q1, q2⟩ := lowV_b hu by' bu
  have h : u ≠ 0 := by omega
  obtain ⟨m1, m2⟩ := lowV_mul (n := x) h
  obtain ⟨m3, m4⟩ := lowV_mul (n := y) h
  have a := lowV_pos (n := x) h
  have b := lowV_pos (n := y) h
  have ab := Int.mul_pos a b
  have s1 : sgR x u ≠ 0 := fun z => by rw [z, Int.mul_zero] at m2; exact h m2.symm
  have s2 : sgR y u ≠ 0 := fun z => by rw [z, Int.mul_zero] at m4; exact h m4.symm
  have pb := b200 p2 q2
  unfold m_plus
  rw [mulR_s (b100_250 p1) (b100_250 q2), mulR_s (b100_250 q1) (b100_250 p2), mulR_s (b100_250 p2) (b100_250 q2)]
  show m_lowest _ _ >>= _ = _
  rw [lowest_eq, lowR_eq (by omega) (Nat.lt_trans pb (by decide))]
  show some _ = some _
  congr 1
  refine lowV_eq (by omega) h ?_
  refine Int.eq_of_mul_eq_mul_right (a := sgR x u * sgR y u) (Int.mul_ne_zero s1 s2) ?_
  grind
theorem minus_fr (hu : 0 < u) (bx : B100 x) (by' : B100 y) (bu : B100 u) : m_minus (lowV x u) (lowV y u) = some (lowV (x - y) u) := by
  obtain ⟨p1, p2⟩ := lowV_b hu bx bu
  obtain ⟨q1, q2⟩ := lowV_b hu by' bu
  have h : u ≠ 0 := by omega
  obtain ⟨m1, m2⟩ := lowV_mul (n := x) h
  obtain ⟨m3, m4⟩ := lowV_mul (n := y) h
  have a := lowV_pos (n := x) h
  have b := lowV_pos (n := y) h
  have ab := Int.mul_pos a b
  have s1 : sgR x u ≠ 0 := fun z => by rw [z, Int.mul_zero] at m2; exact h m2.symm
  have s2 : sgR y u ≠ 0 := fun z => by rw [z, Int.mul_zero] at m4; exact h m4.symm
  have pb := b200 p2 q2
  unfold m_minus
  rw [mulR_s (b100_250 p1) (b100_250 q2), mulR_s (b100_250 q1) (b100_250 p2), mulR_s (b100_250 p2) (b100_250 q2)]
  show m_lowest _ _ >>= _ = _
  rw [lowest_eq, lowR_eq (by omega) (Nat.lt_trans pb (by decide))]
  show some _ = some _
  congr 1
  refine lowV_eq (by omega) h ?_
  refine Int.eq_of_mul_eq_mul_right (a := sgR x u * sgR y u) (Int.mul_ne_zero s1 s2) ?_
  grind
theorem less_fr (hu : 0 < u) (bx : B100 x) (by' : B100 y) (bu : B100 u) : m_is_less (lowV x u) (lowV y u) = some (decide (x < y)) := by
  obtain ⟨p1, p2⟩ := lowV_b hu bx bu
  obtain ⟨q1, q2⟩ := lowV_b hu by' bu
  have h : u ≠ 0 := by omega
  obtain ⟨m1, m2⟩ := lowV_mul (n := x) h
  obtain ⟨m3, m4⟩ := lowV_mul (n := y) h
  have a := lowV_pos (n := x) h
  have b := lowV_pos (n := y) h
  have s1 : 0 < sgR x u := by
    refine Int.not_le.mp fun z => ?_
    have := Int.mul_nonneg_of_nonpos_of_nonpos (Int.neg_nonpos_of_nonneg (Int.le_of_lt a)) z
    rw [Int.neg_mul, m2] at this
    omega
  have s2 : 0 < sgR y u := by
    refine Int.not_le.mp fun z => ?_
    have := Int.mul_nonneg_of_nonpos_of_nonpos (Int.neg_nonpos_of_nonneg (Int.le_of_lt b)) z
    rw [Int.neg_mul, m4] at this
    omega
  unfold m_is_less
  rw [mulR_s (b100_250 p1) (b100_250 q2), mulR_s (b100_250 q1) (b100_250 p2)]
  show some (decide _) = some (decide _)
  congr 1
  refine decide_eq_decide.mpr ?_
  have t : 0 < sgR x u * sgR y u := Int.mul_pos s1 s2
  have k1 : (lowV x u).1 * (lowV y u).2 * (sgR x u * sgR y u) = x * u := by grind
  have k2 : (lowV y u).1 * (lowV x u).2 * (sgR x u * sgR y u) = y * u := by grind
  constructor
  · intro q
    have := Int.mul_lt_mul_of_pos_right q t
    rw [k1, k2] at this
    exact Int.lt_of_mul_lt_mul_right this (by omega)
  · intro q
    refine Int.lt_of_mul_lt_mul_right (a := sgR x u * sgR y u) ?_ (by omega)
    rw [k1, k2]
    exact Int.mul_lt_mul_of_pos_right q hu
end
/-! ### boxes of numbers over one unit -/
abbrev IB := Int × Int × Int × Int
abbrev FBx := (Int × Int) × (Int × Int) × (Int × Int) × (Int × Int)
def frB (u : Int) (b : IB) : FBx := (lowV b.1 u, lowV b.2.1 u, lowV b.2.2.1 u, lowV b.2.2.2 u)
def BdB (b : IB) : Prop := B100 b.1 ∧ B100 b.2.1 ∧ B100 b.2.2.1 ∧ B100 b.2.2.2
def wideI (b : IB) : Bool := decide (b.1 < b.2.2.1) && decide (b.2.1 < b.2.2.2)
def lapI (b c : IB) : Bool := decide (b.1 < c.2.2.1) && (decide (c.1 < b.2.2.1) && (decide (b.2.1 < c.2.2.2) && decide (c.2.1 < b.2.2.2)))
section
variable {u : Int} {b c : IB}
theorem wide_fr (hu : 0 < u) (bu : B100 u) (hb : BdB b) : m_is_wide_box (frB u b) = some (wideI b) := by
  obtain ⟨h1, h2, h3, h4⟩ := hb
  unfold m_is_wide_box frB
  dsimp only
  rw [less_fr hu h1 h3 bu]
  show (cond (decide (b.1 < b.2.2.1)) (m_is_less (lowV b.2.1 u) (lowV b.2.2.2 u) >>= fun v2 => some v2) (some false) >>= fun c3 => some c3) = _
  rw [less_fr hu h2 h4 bu]
  unfold wideI
  cases decide (b.1 < b.2.2.1) <;> rfl
theorem laps_fr (hu : 0 < u) (bu : B100 u) (hb : BdB b) (hc : BdB c) : m_boxes_lap (frB u b) (frB u c) = some ((wideI b || wideI c) && lapI b c) := by
  unfold m_boxes_lap
  rw [wide_fr hu bu hb, wide_fr hu bu hc]
  obtain ⟨h1, h2, h3, h4⟩ := hb
  obtain ⟨k1, k2, k3, k4⟩ := hc
  unfold frB
  dsimp only
  rw [less_fr hu h1 k3 bu, less_fr hu k1 h3 bu, less_fr hu h2 k4 bu, less_fr hu k2 h4 bu]
  unfold lapI
  generalize wideI b = w1
  generalize wideI c = w2
  generalize decide (b.1 < c.2.2.1) = d1
  generalize decide (c.1 < b.2.2.1) = d2
  generalize decide (b.2.1 < c.2.2.2) = d3
  generalize decide (c.2.1 < b.2.2.2) = d4
  cases w1 <;> cases w2 <;> cases d1 <;> cases d2 <;> cases d3 <;> cases d4 <;> rfl
/-- the law's own: of two boxes -/
theorem lap_one : m_law_lap [b] [c] = some (!((decide (b.1 = b.2.2.1) || decide (b.2.1 = b.2.2.2)) && (decide (c.1 = c.2.2.1) || decide (c.2.1 = c.2.2.2))) && lapI b c) := by
  show cond ((decide (b.1 = b.2.2.1) || decide (b.2.1 = b.2.2.2)) && (decide (c.1 = c.2.2.1) || decide (c.2.1 = c.2.2.2))) (some false) (some (lapI b c)) = _
  cases (decide (b.1 = b.2.2.1) || decide (b.2.1 = b.2.2.2)) && (decide (c.1 = c.2.2.1) || decide (c.2.1 = c.2.2.2)) <;> rfl
end
end Ty

set_option maxHeartbeats 0
namespace K39
open PySem PySem.Spec PyProof.Rows L2 Ty
def top (i : Nat) : Stmt := PySem.Challenge.pw_wherehouse_k39_boxes_that_go_and_pass_cl.main.body.getD i (.Pass ⟨0, 0, 0, 0⟩)
structure Txt (w : World) (K : Frag) (mg : Str → Option Value) : Prop where
  abs_ : mg "abs" = none
  bool_ : mg "bool" = none
  int_ : mg "int" = none
  isinstance_ : mg "isinstance" = none
  len_ : mg "len" = none
  list_ : mg "list" = none
  max_ : mg "max" = none
  min_ : mg "min" = none
  range_ : mg "range" = none
  set_ : mg "set" = none
  sorted_ : mg "sorted" = none
  str_ : mg "str" = none
  tuple_ : mg "tuple" = none
  gcd_ : mg "gcd" = some (.builtin "math.gcd")
  c_FRONTS : ∃ ad : Addr, mg "FRONTS" = some (.ref ad) ∧ ∀ z y, dkR ([("north", 3), ("east", 2), ("south", 1), ("west", 0)] : List (Str × Int)) z = some y → ∃ v, KDct K w ad z v ∧ ∀ W, (cInt : Cod K Int).rp W v y
  c_HEADINGS : ∃ (ad : Addr) (o : Obj), mg "HEADINGS" = some (.ref ad) ∧ (∀ W, SqT K W ad ((["north", "east", "south", "west"] : List Str).map V.str)) ∧ (K.lookup ad = some o ∧ o.cls = .type "tuple" ∧ o.dict = none)
section
variable {P : Program} {w : World} {K : Frag} {mg : Str → Option Value} {base : Heap}
abbrev st_lowest : Stmt := top 2
theorem S_lowest : FnScope ["n", "d", "divisor"] ["n", "d"] (defScope st_lowest) := ⟨rfl, rfl, rfl, by decide +kernel, rfl, by decide +kernel, by decide +kernel⟩
theorem ok_lowest {fa : Addr} {fd : FuncData} (T : Txt w K mg) (F : FunD K "lowest" "lowest" (defArgs st_lowest) (defBody st_lowest) (defScope st_lowest) [] [] fa fd) (hm : mg "lowest" = some (.ref fa)) : FnP P w K mg base "lowest" 1 ["n", "d"] (spP K (tcC cInt (tc1 cInt)) (fun x => m_lowest x.1 x.2) (cTup (tcC cInt (tc1 cInt)))) := by
  refine fnp_of hm F (fn_top (fun _ => False) (fun _ h => h.elim) F S_lowest (penC pen1) (fun x => [.im cInt x.1, .im cInt x.2, .no]) fun cdv A outer s H E hr C hB x => ?_) (fun _ _ _ _ _ _ us hl => match us, hl with | [_, _], _ => rfl)
  obtain ⟨a_n, a_d⟩ := x
  show GK _ C _ _ (m_lowest a_n a_d) _
  unfold m_lowest
  exact (gk_cons (gs_let 2 (ex_callFT b_gcd T.gcd_ (ea_cons (ex_var 0 (ea_one (ex_var 1 (⟨_, rfl, fun divisor_1 => gk_cons (gk_join (fun (s2 : Int) => [.im cInt a_n, .im cInt a_d, .im cInt s2]) rfl (gs_if2 (et_cmp o_lt (ex_var 1 (ex_int (⟨_, _, rfl, gk_one (gs_set 2 (ex_neg (ex_var 2 (⟨_, rfl, wk_refl⟩))) S_lowest.nd), gk_nil (⟨_, rfl, wk_refl⟩)⟩))))) (fun s2 => gk_one (gs_ret (ex_tup (ea_cons (ex_op2 o_fdiv (ex_var 0 (ex_var 2 (⟨_, rfl, fun v3 => ea_one (ex_op2 o_fdiv (ex_var 1 (ex_var 2 (⟨_, rfl, fun v4 => rfl⟩))))⟩)))))))))⟩)))))) S_lowest.nd))
abbrev st_plus : Stmt := top 3
theorem S_plus : FnScope ["p", "q"] ["p", "q"] (defScope st_plus) := ⟨rfl, rfl, rfl, by decide +kernel, rfl, by decide +kernel, by decide +kernel⟩
theorem ok_plus {fa : Addr} {fd : FuncData} (T : Txt w K mg) (F : FunD K "plus" "plus" (defArgs st_plus) (defBody st_plus) (defScope st_plus) [] [] fa fd) (hm : mg "plus" = some (.ref fa)) (F_lowest : FnP P w K mg base "lowest" (1) ["n", "d"] (spP K (tcC cInt (tc1 cInt)) (fun x => m_lowest x.1 x.2) (cTup (tcC cInt (tc1 cInt))))) : FnP P w K mg base "plus" 2 ["p", "q"] (spP K (tcC (cTup (tcC cInt (tc1 cInt))) (tc1 (cTup (tcC cInt (tc1 cInt))))) (fun x => m_plus x.1 x.2) (cTup (tcC cInt (tc1 cInt)))) := by
  refine fnp_of hm F (fn_top (fun _ => False) (fun _ h => h.elim) F S_plus (penC pen1) (fun x => [.im (cTup (tcC cInt (tc1 cInt))) x.1, .im (cTup (tcC cInt (tc1 cInt))) x.2]) fun cdv A outer s H E hr C hB x => ?_) (fun _ _ _ _ _ _ us hl => match us, hl with | [_, _], _ => rfl)
  obtain ⟨a_p, a_q⟩ := x
  show GK _ C _ _ (m_plus a_p a_q) _
  unfold m_plus
  exact (gk_one (gs_ret (ex_call F_lowest (hr.mono (by decide)) (ea_cons (ex_op2T o_add (ex_op2 o_mul (ex_ixT (i := 0) nthZ (ex_var 0 (ex_ixT (i := 1) (nthS nthL) (ex_var 1 (⟨_, rfl, fun v1 => ex_op2 o_mul (ex_ixT (i := 0) nthZ (ex_var 1 (ex_ixT (i := 1) (nthS nthL) (ex_var 0 (⟨_, rfl, fun v2 => ea_one (ex_op2 o_mul (ex_ixT (i := 1) (nthS nthL) (ex_var 0 (ex_ixT (i := 1) (nthS nthL) (ex_var 1 (⟨_, rfl, fun v3 => ⟨_, rfl, fun v4 => rfl⟩⟩))))))⟩)))))⟩)))))))))))
abbrev st_minus : Stmt := top 4
theorem S_minus : FnScope ["p", "q"] ["p", "q"] (defScope st_minus) := ⟨rfl, rfl, rfl, by decide +kernel, rfl, by decide +kernel, by decide +kernel⟩
theorem ok_minus {fa : Addr} {fd : FuncData} (T : Txt w K mg) (F : FunD K "minus" "minus" (defArgs st_minus) (defBody st_minus) (defScope st_minus) [] [] fa fd) (hm : mg "minus" = some (.ref fa)) (F_lowest : FnP P w K mg base "lowest" (1) ["n", "d"] (spP K (tcC cInt (tc1 cInt)) (fun x => m_lowest x.1 x.2) (cTup (tcC cInt (tc1 cInt))))) : FnP P w K mg base "minus" 2 ["p", "q"] (spP K (tcC (cTup (tcC cInt (tc1 cInt))) (tc1 (cTup (tcC cInt (tc1 cInt))))) (fun x => m_minus x.1 x.2) (cTup (tcC cInt (tc1 cInt)))) := by
  refine fnp_of hm F (fn_top (fun _ => False) (fun _ h => h.elim) F S_minus (penC pen1) (fun x => [.im (cTup (tcC cInt (tc1 cInt))) x.1, .im (cTup (tcC cInt (tc1 cInt))) x.2]) fun cdv A outer s H E hr C hB x => ?_) (fun _ _ _ _ _ _ us hl => match us, hl with | [_, _], _ => rfl)
  obtain ⟨a_p, a_q⟩ := x
  show GK _ C _ _ (m_minus a_p a_q) _
  unfold m_minus
  exact (gk_one (gs_ret (ex_call F_lowest (hr.mono (by decide)) (ea_cons (ex_op2T o_sub (ex_op2 o_mul (ex_ixT (i := 0) nthZ (ex_var 0 (ex_ixT (i := 1) (nthS nthL) (ex_var 1 (⟨_, rfl, fun v1 => ex_op2 o_mul (ex_ixT (i := 0) nthZ (ex_var 1 (ex_ixT (i := 1) (nthS nthL) (ex_var 0 (⟨_, rfl, fun v2 => ea_one (ex_op2 o_mul (ex_ixT (i := 1) (nthS nthL) (ex_var 0 (ex_ixT (i := 1) (nthS nthL) (ex_var 1 (⟨_, rfl, fun v3 => ⟨_, rfl, fun v4 => rfl⟩⟩))))))⟩)))))⟩)))))))))))
abbrev st_is_less : Stmt := top 5
theorem S_is_less : FnScope ["p", "q"] ["p", "q"] (defScope st_is_less) := ⟨rfl, rfl, rfl, by decide +kernel, rfl, by decide +kernel, by decide +kernel⟩
theorem ok_is_less {fa : Addr} {fd : FuncData} (T : Txt w K mg) (F : FunD K "is_less" "is_less" (defArgs st_is_less) (defBody st_is_less) (defScope st_is_less) [] [] fa fd) (hm : mg "is_less" = some (.ref fa)) : FnP P w K mg base "is_less" 1 ["p", "q"] (spP K (tcC (cTup (tcC cInt (tc1 cInt))) (tc1 (cTup (tcC cInt (tc1 cInt))))) (fun x => m_is_less x.1 x.2) cBool) := by
  refine fnp_of hm F (fn_top (fun _ => False) (fun _ h => h.elim) F S_is_less (penC pen1) (fun x => [.im (cTup (tcC cInt (tc1 cInt))) x.1, .im (cTup (tcC cInt (tc1 cInt))) x.2]) fun cdv A outer s H E hr C hB x => ?_) (fun _ _ _ _ _ _ us hl => match us, hl with | [_, _], _ => rfl)
  obtain ⟨a_p, a_q⟩ := x
  show GK _ C _ _ (m_is_less a_p a_q) _
  unfold m_is_less
  exact (gk_one (gs_ret (ex_cmp o_lt (ex_op2 o_mul (ex_ixT (i := 0) nthZ (ex_var 0 (ex_ixT (i := 1) (nthS nthL) (ex_var 1 (⟨_, rfl, fun v1 => ex_op2 o_mul (ex_ixT (i := 0) nthZ (ex_var 1 (ex_ixT (i := 1) (nthS nthL) (ex_var 0 (⟨_, rfl, fun v2 => rfl⟩)))))⟩)))))))))
abbrev st_is_wide_box : Stmt := top 7
theorem S_is_wide_box : FnScope ["box", "west", "south", "east", "north"] ["box"] (defScope st_is_wide_box) := ⟨rfl, rfl, rfl, by decide +kernel, rfl, by decide +kernel, by decide +kernel⟩
theorem ok_is_wide_box {fa : Addr} {fd : FuncData} (T : Txt w K mg) (F : FunD K "is_wide_box" "is_wide_box" (defArgs st_is_wide_box) (defBody st_is_wide_box) (defScope st_is_wide_box) [] [] fa fd) (hm : mg "is_wide_box" = some (.ref fa)) (F_is_less : FnP P w K mg base "is_less" (1) ["p", "q"] (spP K (tcC (cTup (tcC cInt (tc1 cInt))) (tc1 (cTup (tcC cInt (tc1 cInt))))) (fun x => m_is_less x.1 x.2) cBool)) : FnP P w K mg base "is_wide_box" 2 ["box"] (spP K (tc1 (cTup (tcC (cTup (tcC cInt (tc1 cInt))) (tcC (cTup (tcC cInt (tc1 cInt))) (tcC (cTup (tcC cInt (tc1 cInt))) (tc1 (cTup (tcC cInt (tc1 cInt))))))))) (fun x => m_is_wide_box x) cBool) := by
  refine fnp_of hm F (fn_top (fun _ => False) (fun _ h => h.elim) F S_is_wide_box pen1 (fun x => [.im (cTup (tcC (cTup (tcC cInt (tc1 cInt))) (tcC (cTup (tcC cInt (tc1 cInt))) (tcC (cTup (tcC cInt (tc1 cInt))) (tc1 (cTup (tcC cInt (tc1 cInt)))))))) x, .no, .no, .no, .no]) fun cdv A outer s H E hr C hB a_box => ?_) (fun _ _ _ _ _ _ us hl => match us, hl with | [_], _ => rfl)
  show GK _ C _ _ (m_is_wide_box a_box) _
  unfold m_is_wide_box
  exact (gk_cons (gs_asg (ag_tup rfl (ags_cons (ag_name 1 S_is_wide_box.nd) (ags_cons (ag_name 2 S_is_wide_box.nd) (ags_cons (ag_name 3 S_is_wide_box.nd) (ags_one (ag_name 4 S_is_wide_box.nd)))))) (ex_var 0 (gk_one (gs_ret (ex_and (fun (c : Bool) => c) (fun _ => [.im (cTup (tcC (cTup (tcC cInt (tc1 cInt))) (tcC (cTup (tcC cInt (tc1 cInt))) (tcC (cTup (tcC cInt (tc1 cInt))) (tc1 (cTup (tcC cInt (tc1 cInt)))))))) a_box, .im (cTup (tcC cInt (tc1 cInt))) a_box.1, .im (cTup (tcC cInt (tc1 cInt))) a_box.2.1, .im (cTup (tcC cInt (tc1 cInt))) a_box.2.2.1, .im (cTup (tcC cInt (tc1 cInt))) a_box.2.2.2]) (ex_call F_is_less (hr.mono (by decide)) (ea_cons (ex_var 1 (ea_one (ex_var 3 (⟨_, rfl, fun v1 => ⟨_, false, _, rfl, rfl, wk_refl, ex_one (ex_call F_is_less (hr.mono (by decide)) (ea_cons (ex_var 2 (ea_one (ex_var 4 (⟨_, rfl, fun v2 => fin wk_refl⟩)))))), fun c3 => rfl⟩⟩))))))))))))
abbrev st_boxes_lap : Stmt := top 8
theorem S_boxes_lap : FnScope ["box", "other", "west", "south", "east", "north", "along_x"] ["box", "other"] (defScope st_boxes_lap) := ⟨rfl, rfl, rfl, by decide +kernel, rfl, by decide +kernel, by decide +kernel⟩
theorem ok_boxes_lap {fa : Addr} {fd : FuncData} (T : Txt w K mg) (F : FunD K "boxes_lap" "boxes_lap" (defArgs st_boxes_lap) (defBody st_boxes_lap) (defScope st_boxes_lap) [] [] fa fd) (hm : mg "boxes_lap" = some (.ref fa)) (F_is_wide_box : FnP P w K mg base "is_wide_box" (2) ["box"] (spP K (tc1 (cTup (tcC (cTup (tcC cInt (tc1 cInt))) (tcC (cTup (tcC cInt (tc1 cInt))) (tcC (cTup (tcC cInt (tc1 cInt))) (tc1 (cTup (tcC cInt (tc1 cInt))))))))) (fun x => m_is_wide_box x) cBool)) (F_is_less : FnP P w K mg base "is_less" (1) ["p", "q"] (spP K (tcC (cTup (tcC cInt (tc1 cInt))) (tc1 (cTup (tcC cInt (tc1 cInt))))) (fun x => m_is_less x.1 x.2) cBool)) : FnP P w K mg base "boxes_lap" 3 ["box", "other"] (spP K (tcC (cTup (tcC (cTup (tcC cInt (tc1 cInt))) (tcC (cTup (tcC cInt (tc1 cInt))) (tcC (cTup (tcC cInt (tc1 cInt))) (tc1 (cTup (tcC cInt (tc1 cInt)))))))) (tc1 (cTup (tcC (cTup (tcC cInt (tc1 cInt))) (tcC (cTup (tcC cInt (tc1 cInt))) (tcC (cTup (tcC cInt (tc1 cInt))) (tc1 (cTup (tcC cInt (tc1 cInt)))))))))) (fun x => m_boxes_lap x.1 x.2) cBool) := by
  refine fnp_of hm F (fn_top (fun _ => False) (fun _ h => h.elim) F S_boxes_lap (penC pen1) (fun x => [.im (cTup (tcC (cTup (tcC cInt (tc1 cInt))) (tcC (cTup (tcC cInt (tc1 cInt))) (tcC (cTup (tcC cInt (tc1 cInt))) (tc1 (cTup (tcC cInt (tc1 cInt)))))))) x.1, .im (cTup (tcC (cTup (tcC cInt (tc1 cInt))) (tcC (cTup (tcC cInt (tc1 cInt))) (tcC (cTup (tcC cInt (tc1 cInt))) (tc1 (cTup (tcC cInt (tc1 cInt)))))))) x.2, .no, .no, .no, .no, .no]) fun cdv A outer s H E hr C hB x => ?_) (fun _ _ _ _ _ _ us hl => match us, hl with | [_, _], _ => rfl)
  obtain ⟨a_box, a_other⟩ := x
  show GK _ C _ _ (m_boxes_lap a_box a_other) _
  unfold m_boxes_lap
  exact (gk_cons (gs_ifR (et_w (ew_and (fun (c : Bool) => c) (fun _ => [.im (cTup (tcC (cTup (tcC cInt (tc1 cInt))) (tcC (cTup (tcC cInt (tc1 cInt))) (tcC (cTup (tcC cInt (tc1 cInt))) (tc1 (cTup (tcC cInt (tc1 cInt)))))))) a_box, .im (cTup (tcC (cTup (tcC cInt (tc1 cInt))) (tcC (cTup (tcC cInt (tc1 cInt))) (tcC (cTup (tcC cInt (tc1 cInt))) (tc1 (cTup (tcC cInt (tc1 cInt)))))))) a_other, .no, .no, .no, .no, .no]) (ew_not (et_val (ex_call F_is_wide_box (hr.mono (by decide)) (ea_one (ex_var 0 (⟨_, rfl, fun v1 => ⟨_, false, _, rfl, rfl, wk_refl, ew_and1 (ew_not (et_val (ex_call F_is_wide_box (hr.mono (by decide)) (ea_one (ex_var 1 (⟨_, rfl, fun v2 => fin wk_refl⟩)))))), fun c3 => ⟨_, _, rfl, gk_one (gs_ret (ex_bl (rfl))), gk_cons (gs_asg (ag_tup rfl (ags_cons (ag_name 2 S_boxes_lap.nd) (ags_cons (ag_name 3 S_boxes_lap.nd) (ags_cons (ag_name 4 S_boxes_lap.nd) (ags_one (ag_name 5 S_boxes_lap.nd)))))) (ex_var 0 (gk_cons (gs_set 6 (ex_and (fun (c : Bool) => c) (fun _ => [.im (cTup (tcC (cTup (tcC cInt (tc1 cInt))) (tcC (cTup (tcC cInt (tc1 cInt))) (tcC (cTup (tcC cInt (tc1 cInt))) (tc1 (cTup (tcC cInt (tc1 cInt)))))))) a_box, .im (cTup (tcC (cTup (tcC cInt (tc1 cInt))) (tcC (cTup (tcC cInt (tc1 cInt))) (tcC (cTup (tcC cInt (tc1 cInt))) (tc1 (cTup (tcC cInt (tc1 cInt)))))))) a_other, .im (cTup (tcC cInt (tc1 cInt))) a_box.1, .im (cTup (tcC cInt (tc1 cInt))) a_box.2.1, .im (cTup (tcC cInt (tc1 cInt))) a_box.2.2.1, .im (cTup (tcC cInt (tc1 cInt))) a_box.2.2.2, .no]) (ex_call F_is_less (hr.mono (by decide)) (ea_cons (ex_var 2 (ea_one (ex_ixT (i := 2) (nthS (nthS nthZ)) (ex_var 1 (⟨_, rfl, fun v4 => ⟨_, false, _, rfl, rfl, wk_refl, ex_one (ex_call F_is_less (hr.mono (by decide)) (ea_cons (ex_ixT (i := 0) nthZ (ex_var 1 (ea_one (ex_var 4 (⟨_, rfl, fun v5 => fin wk_refl⟩))))))), fun c6 => gk_one (gs_ret (ex_and (fun (c : Bool) => c) (fun _ => [.im (cTup (tcC (cTup (tcC cInt (tc1 cInt))) (tcC (cTup (tcC cInt (tc1 cInt))) (tcC (cTup (tcC cInt (tc1 cInt))) (tc1 (cTup (tcC cInt (tc1 cInt)))))))) a_box, .im (cTup (tcC (cTup (tcC cInt (tc1 cInt))) (tcC (cTup (tcC cInt (tc1 cInt))) (tcC (cTup (tcC cInt (tc1 cInt))) (tc1 (cTup (tcC cInt (tc1 cInt)))))))) a_other, .im (cTup (tcC cInt (tc1 cInt))) a_box.1, .im (cTup (tcC cInt (tc1 cInt))) a_box.2.1, .im (cTup (tcC cInt (tc1 cInt))) a_box.2.2.1, .im (cTup (tcC cInt (tc1 cInt))) a_box.2.2.2, .im cBool c6]) (ex_var 6 (⟨_, false, _, rfl, rfl, wk_refl, ex_and (fun (c : Bool) => c) (fun _ => [.im (cTup (tcC (cTup (tcC cInt (tc1 cInt))) (tcC (cTup (tcC cInt (tc1 cInt))) (tcC (cTup (tcC cInt (tc1 cInt))) (tc1 (cTup (tcC cInt (tc1 cInt)))))))) a_box, .im (cTup (tcC (cTup (tcC cInt (tc1 cInt))) (tcC (cTup (tcC cInt (tc1 cInt))) (tcC (cTup (tcC cInt (tc1 cInt))) (tc1 (cTup (tcC cInt (tc1 cInt)))))))) a_other, .im (cTup (tcC cInt (tc1 cInt))) a_box.1, .im (cTup (tcC cInt (tc1 cInt))) a_box.2.1, .im (cTup (tcC cInt (tc1 cInt))) a_box.2.2.1, .im (cTup (tcC cInt (tc1 cInt))) a_box.2.2.2, .im cBool c6]) (ex_call F_is_less (hr.mono (by decide)) (ea_cons (ex_var 3 (ea_one (ex_ixT (i := 3) (nthS (nthS (nthS nthL))) (ex_var 1 (⟨_, rfl, fun v7 => ⟨_, false, _, rfl, rfl, wk_refl, ex_one (ex_call F_is_less (hr.mono (by decide)) (ea_cons (ex_ixT (i := 1) (nthS nthZ) (ex_var 1 (ea_one (ex_var 5 (⟨_, rfl, fun v8 => fin wk_refl⟩))))))), fun c9 => fin wk_refl⟩⟩))))))), fun c10 => rfl⟩))))⟩⟩)))))))) S_boxes_lap.nd))))⟩⟩⟩))))))))))
def m_go_box (a_box : ((Int × Int) × (Int × Int) × (Int × Int) × (Int × Int))) (a_heading : Str) (a_distance : (Int × Int)) : Option ((Int × Int) × (Int × Int) × (Int × Int) × (Int × Int)) :=
 cond (decide (a_heading = ("north" : Str))) (m_plus a_box.2.1 a_distance >>= fun v1 =>
 m_plus a_box.2.2.2 a_distance >>= fun v2 =>
 some (a_box.1, v1, a_box.2.2.1, v2)) (cond (decide (a_heading = ("east" : Str))) (m_plus a_box.1 a_distance >>= fun v3 =>
 m_plus a_box.2.2.1 a_distance >>= fun v4 =>
 some (v3, a_box.2.1, v4, a_box.2.2.2)) (cond (decide (a_heading = ("south" : Str))) (m_minus a_box.2.1 a_distance >>= fun v5 =>
 m_minus a_box.2.2.2 a_distance >>= fun v6 =>
 some (a_box.1, v5, a_box.2.2.1, v6)) (m_minus a_box.1 a_distance >>= fun v7 =>
 m_minus a_box.2.2.1 a_distance >>= fun v8 =>
 some (v7, a_box.2.1, v8, a_box.2.2.2))))
abbrev st_go_box : Stmt := top 12
theorem S_go_box : FnScope ["box", "heading", "distance", "west", "south", "east", "north"] ["box", "heading", "distance"] (defScope st_go_box) := ⟨rfl, rfl, rfl, by decide +kernel, rfl, by decide +kernel, by decide +kernel⟩
theorem ok_go_box {fa : Addr} {fd : FuncData} (T : Txt w K mg) (F : FunD K "go_box" "go_box" (defArgs st_go_box) (defBody st_go_box) (defScope st_go_box) [] [] fa fd) (hm : mg "go_box" = some (.ref fa)) (F_plus : FnP P w K mg base "plus" (2) ["p", "q"] (spP K (tcC (cTup (tcC cInt (tc1 cInt))) (tc1 (cTup (tcC cInt (tc1 cInt))))) (fun x => m_plus x.1 x.2) (cTup (tcC cInt (tc1 cInt))))) (F_minus : FnP P w K mg base "minus" (2) ["p", "q"] (spP K (tcC (cTup (tcC cInt (tc1 cInt))) (tc1 (cTup (tcC cInt (tc1 cInt))))) (fun x => m_minus x.1 x.2) (cTup (tcC cInt (tc1 cInt))))) : FnP P w K mg base "go_box" 3 ["box", "heading", "distance"] (spP K (tcC (cTup (tcC (cTup (tcC cInt (tc1 cInt))) (tcC (cTup (tcC cInt (tc1 cInt))) (tcC (cTup (tcC cInt (tc1 cInt))) (tc1 (cTup (tcC cInt (tc1 cInt)))))))) (tcC cStr (tc1 (cTup (tcC cInt (tc1 cInt)))))) (fun x => m_go_box x.1 x.2.1 x.2.2) (cTup (tcC (cTup (tcC cInt (tc1 cInt))) (tcC (cTup (tcC cInt (tc1 cInt))) (tcC (cTup (tcC cInt (tc1 cInt))) (tc1 (cTup (tcC cInt (tc1 cInt))))))))) := by
  refine fnp_of hm F (fn_top (fun _ => False) (fun _ h => h.elim) F S_go_box (penC (penC pen1)) (fun x => [.im (cTup (tcC (cTup (tcC cInt (tc1 cInt))) (tcC (cTup (tcC cInt (tc1 cInt))) (tcC (cTup (tcC cInt (tc1 cInt))) (tc1 (cTup (tcC cInt (tc1 cInt)))))))) x.1, .im cStr x.2.1, .im (cTup (tcC cInt (tc1 cInt))) x.2.2, .no, .no, .no, .no]) fun cdv A outer s H E hr C hB x => ?_) (fun _ _ _ _ _ _ us hl => match us, hl with | [_, _, _], _ => rfl)
  obtain ⟨a_box, a_heading, a_distance⟩ := x
  show GK _ C _ _ (m_go_box a_box a_heading a_distance) _
  unfold m_go_box
  exact (gk_cons (gs_asg (ag_tup rfl (ags_cons (ag_name 3 S_go_box.nd) (ags_cons (ag_name 4 S_go_box.nd) (ags_cons (ag_name 5 S_go_box.nd) (ags_one (ag_name 6 S_go_box.nd)))))) (ex_var 0 (gk_cons (gs_ifR (et_cmp o_eqS (ex_var 1 (ex_str (⟨_, _, rfl, gk_one (gs_ret (ex_tup (ea_cons (ex_var 3 (ea_cons (ex_call F_plus (hr.mono (by decide)) (ea_cons (ex_var 4 (ea_one (ex_var 2 (⟨_, rfl, fun v1 => ea_cons (ex_var 5 (ea_one (ex_call F_plus (hr.mono (by decide)) (ea_cons (ex_var 6 (ea_one (ex_var 2 (⟨_, rfl, fun v2 => rfl⟩))))))))⟩))))))))))), gk_cons (gs_ifR (et_cmp o_eqS (ex_var 1 (ex_str (⟨_, _, rfl, gk_one (gs_ret (ex_tup (ea_cons (ex_call F_plus (hr.mono (by decide)) (ea_cons (ex_var 3 (ea_one (ex_var 2 (⟨_, rfl, fun v3 => ea_cons (ex_var 4 (ea_cons (ex_call F_plus (hr.mono (by decide)) (ea_cons (ex_var 5 (ea_one (ex_var 2 (⟨_, rfl, fun v4 => ea_one (ex_var 6 (rfl))⟩))))))))⟩))))))))), gk_cons (gs_ifR (et_cmp o_eqS (ex_var 1 (ex_str (⟨_, _, rfl, gk_one (gs_ret (ex_tup (ea_cons (ex_var 3 (ea_cons (ex_call F_minus (hr.mono (by decide)) (ea_cons (ex_var 4 (ea_one (ex_var 2 (⟨_, rfl, fun v5 => ea_cons (ex_var 5 (ea_one (ex_call F_minus (hr.mono (by decide)) (ea_cons (ex_var 6 (ea_one (ex_var 2 (⟨_, rfl, fun v6 => rfl⟩))))))))⟩))))))))))), gk_one (gs_ret (ex_tup (ea_cons (ex_call F_minus (hr.mono (by decide)) (ea_cons (ex_var 3 (ea_one (ex_var 2 (⟨_, rfl, fun v7 => ea_cons (ex_var 4 (ea_cons (ex_call F_minus (hr.mono (by decide)) (ea_cons (ex_var 5 (ea_one (ex_var 2 (⟨_, rfl, fun v8 => ea_one (ex_var 6 (rfl))⟩))))))))⟩)))))))))⟩)))))⟩)))))⟩)))))))))
def m_with_front (a_sides : (List (Int × Int))) (a_front : (Int × Int)) (a_heading : Str) : Option (List (Int × Int)) :=
 dkR ([("north", 3), ("east", 2), ("south", 1), ("west", 0)] : List (Str × Int)) a_heading >>= fun v1 =>
 catR (cutR a_sides none (some v1)) ([a_front]) >>= fun v2 =>
 catR v2 (cutR a_sides (some (v1 + (1 : Int))) none) >>= fun v3 =>
 some v3
abbrev st_with_front : Stmt := top 13
theorem S_with_front : FnScope ["sides", "front", "heading", "k"] ["sides", "front", "heading"] (defScope st_with_front) := ⟨rfl, rfl, rfl, by decide +kernel, rfl, by decide +kernel, by decide +kernel⟩
theorem ok_with_front {fa : Addr} {fd : FuncData} (T : Txt w K mg) (F : FunD K "with_front" "with_front" (defArgs st_with_front) (defBody st_with_front) (defScope st_with_front) [] [] fa fd) (hm : mg "with_front" = some (.ref fa)) : FnP P w K mg base "with_front" 1 ["sides", "front", "heading"] (spP K (tcC (cSeq (cTup (tcC cInt (tc1 cInt)))) (tcC (cTup (tcC cInt (tc1 cInt))) (tc1 cStr))) (fun x => m_with_front x.1 x.2.1 x.2.2) (cSeq (cTup (tcC cInt (tc1 cInt))))) := by
  obtain ⟨ad_FRONTS, g_FRONTS, q_FRONTS⟩ := T.c_FRONTS
  refine fnp_of hm F (fn_top (fun _ => False) (fun _ h => h.elim) F S_with_front (penC (penC pen1)) (fun x => [.im (cSeq (cTup (tcC cInt (tc1 cInt)))) x.1, .im (cTup (tcC cInt (tc1 cInt))) x.2.1, .im cStr x.2.2, .no]) fun cdv A outer s H E hr C hB x => ?_) (fun _ _ _ _ _ _ us hl => match us, hl with | [_, _, _], _ => rfl)
  obtain ⟨a_sides, a_front, a_heading⟩ := x
  show GK _ C _ _ (m_with_front a_sides a_front a_heading) _
  unfold m_with_front
  exact (gk_cons (gs_set 3 (ex_kd (kvs := ([("north", 3), ("east", 2), ("south", 1), ("west", 0)] : List (Str × Int))) g_FRONTS q_FRONTS (ex_var 2 (⟨_, rfl, fun v1 => gk_one (gs_ret (ex_op2 o_catS (ex_op2 o_catS (ex_slS (ex_var 0 (eo_none (eo_some (ex_var 3 (ex_tupS (el_cons (ex_var 1 (el_nil (⟨_, rfl, fun v2 => ex_slS (ex_var 0 (eo_some (ex_op2T o_add (ex_var 3 (ex_int (eo_none (⟨_, rfl, fun v3 => rfl⟩)))))))⟩)))))))))))))⟩))) S_with_front.nd))
def m_swept_box (a_box : ((Int × Int) × (Int × Int) × (Int × Int) × (Int × Int))) (a_heading : Str) (a_distance : (Int × Int)) : Option ((Int × Int) × (Int × Int) × (Int × Int) × (Int × Int)) :=
 m_go_box a_box a_heading a_distance >>= fun v1 =>
 dkR ([("north", 3), ("east", 2), ("south", 1), ("west", 0)] : List (Str × Int)) a_heading >>= fun v2 =>
 atI ([v1.1, v1.2.1, v1.2.2.1, v1.2.2.2]) v2 >>= fun v3 =>
 m_with_front ([a_box.1, a_box.2.1, a_box.2.2.1, a_box.2.2.2]) v3 a_heading >>= fun v4 =>
 (dTup (dRC (dTup (dRC dInt (dR1 dInt))) (dRC (dTup (dRC dInt (dR1 dInt))) (dRC (dTup (dRC dInt (dR1 dInt))) (dR1 (dTup (dRC dInt (dR1 dInt)))))))) ((uSeq (uTup (uRC uInt (uR1 uInt)))) v4) >>= fun v5 =>
 some v5
abbrev st_swept_box : Stmt := top 14
theorem S_swept_box : FnScope ["box", "heading", "distance"] ["box", "heading", "distance"] (defScope st_swept_box) := ⟨rfl, rfl, rfl, by decide +kernel, rfl, by decide +kernel, by decide +kernel⟩
theorem ok_swept_box {fa : Addr} {fd : FuncData} (T : Txt w K mg) (F : FunD K "swept_box" "swept_box" (defArgs st_swept_box) (defBody st_swept_box) (defScope st_swept_box) [] [] fa fd) (hm : mg "swept_box" = some (.ref fa)) (F_with_front : FnP P w K mg base "with_front" (1) ["sides", "front", "heading"] (spP K (tcC (cSeq (cTup (tcC cInt (tc1 cInt)))) (tcC (cTup (tcC cInt (tc1 cInt))) (tc1 cStr))) (fun x => m_with_front x.1 x.2.1 x.2.2) (cSeq (cTup (tcC cInt (tc1 cInt)))))) (F_go_box : FnP P w K mg base "go_box" (3) ["box", "heading", "distance"] (spP K (tcC (cTup (tcC (cTup (tcC cInt (tc1 cInt))) (tcC (cTup (tcC cInt (tc1 cInt))) (tcC (cTup (tcC cInt (tc1 cInt))) (tc1 (cTup (tcC cInt (tc1 cInt)))))))) (tcC cStr (tc1 (cTup (tcC cInt (tc1 cInt)))))) (fun x => m_go_box x.1 x.2.1 x.2.2) (cTup (tcC (cTup (tcC cInt (tc1 cInt))) (tcC (cTup (tcC cInt (tc1 cInt))) (tcC (cTup (tcC cInt (tc1 cInt))) (tc1 (cTup (tcC cInt (tc1 cInt)))))))))) : FnP P w K mg base "swept_box" 4 ["box", "heading", "distance"] (spP K (tcC (cTup (tcC (cTup (tcC cInt (tc1 cInt))) (tcC (cTup (tcC cInt (tc1 cInt))) (tcC (cTup (tcC cInt (tc1 cInt))) (tc1 (cTup (tcC cInt (tc1 cInt)))))))) (tcC cStr (tc1 (cTup (tcC cInt (tc1 cInt)))))) (fun x => m_swept_box x.1 x.2.1 x.2.2) (cTup (tcC (cTup (tcC cInt (tc1 cInt))) (tcC (cTup (tcC cInt (tc1 cInt))) (tcC (cTup (tcC cInt (tc1 cInt))) (tc1 (cTup (tcC cInt (tc1 cInt))))))))) := by
  obtain ⟨ad_FRONTS, g_FRONTS, q_FRONTS⟩ := T.c_FRONTS
  refine fnp_of hm F (fn_top (fun _ => False) (fun _ h => h.elim) F S_swept_box (penC (penC pen1)) (fun x => [.im (cTup (tcC (cTup (tcC cInt (tc1 cInt))) (tcC (cTup (tcC cInt (tc1 cInt))) (tcC (cTup (tcC cInt (tc1 cInt))) (tc1 (cTup (tcC cInt (tc1 cInt)))))))) x.1, .im cStr x.2.1, .im (cTup (tcC cInt (tc1 cInt))) x.2.2]) fun cdv A outer s H E hr C hB x => ?_) (fun _ _ _ _ _ _ us hl => match us, hl with | [_, _, _], _ => rfl)
  obtain ⟨a_box, a_heading, a_distance⟩ := x
  show GK _ C _ _ (m_swept_box a_box a_heading a_distance) _
  unfold m_swept_box
  exact (gk_one (gs_ret (ex_cast (decT (decRC (decT (decRC decI (decR1 decI))) (decRC (decT (decRC decI (decR1 decI))) (decRC (decT (decRC decI (decR1 decI))) (decR1 (decT (decRC decI (decR1 decI)))))))) (ex_call F_with_front (hr.mono (by decide)) (ea_cons (ex_tsq (tsqC (tsqC (tsqC tsq1))) (ex_var 0 (ea_cons (ex_ixS (ex_tsq (tsqC (tsqC (tsqC tsq1))) (ex_call F_go_box (hr.mono (by decide)) (ea_cons (ex_var 0 (ea_cons (ex_var 1 (ea_one (ex_var 2 (⟨_, rfl, fun v1 => ex_kd (kvs := ([("north", 3), ("east", 2), ("south", 1), ("west", 0)] : List (Str × Int))) g_FRONTS q_FRONTS (ex_var 1 (⟨_, rfl, fun v2 => ⟨_, rfl, fun v3 => ea_one (ex_var 1 (⟨_, rfl, fun v4 => ⟨_, rfl, fun v5 => rfl⟩⟩))⟩⟩))⟩))))))))))))))))))
def m_passes_clear (a_box : ((Int × Int) × (Int × Int) × (Int × Int) × (Int × Int))) (a_heading : Str) (a_distance : (Int × Int)) (a_other : ((Int × Int) × (Int × Int) × (Int × Int) × (Int × Int))) : Option Bool :=
 m_swept_box a_box a_heading a_distance >>= fun v1 =>
 m_boxes_lap v1 a_other >>= fun v2 =>
 some (!v2)
abbrev st_passes_clear : Stmt := top 15
theorem S_passes_clear : FnScope ["box", "heading", "distance", "other"] ["box", "heading", "distance", "other"] (defScope st_passes_clear) := ⟨rfl, rfl, rfl, by decide +kernel, rfl, by decide +kernel, by decide +kernel⟩
theorem ok_passes_clear {fa : Addr} {fd : FuncData} (T : Txt w K mg) (F : FunD K "passes_clear" "passes_clear" (defArgs st_passes_clear) (defBody st_passes_clear) (defScope st_passes_clear) [] [] fa fd) (hm : mg "passes_clear" = some (.ref fa)) (F_boxes_lap : FnP P w K mg base "boxes_lap" (3) ["box", "other"] (spP K (tcC (cTup (tcC (cTup (tcC cInt (tc1 cInt))) (tcC (cTup (tcC cInt (tc1 cInt))) (tcC (cTup (tcC cInt (tc1 cInt))) (tc1 (cTup (tcC cInt (tc1 cInt)))))))) (tc1 (cTup (tcC (cTup (tcC cInt (tc1 cInt))) (tcC (cTup (tcC cInt (tc1 cInt))) (tcC (cTup (tcC cInt (tc1 cInt))) (tc1 (cTup (tcC cInt (tc1 cInt)))))))))) (fun x => m_boxes_lap x.1 x.2) cBool)) (F_swept_box : FnP P w K mg base "swept_box" (4) ["box", "heading", "distance"] (spP K (tcC (cTup (tcC (cTup (tcC cInt (tc1 cInt))) (tcC (cTup (tcC cInt (tc1 cInt))) (tcC (cTup (tcC cInt (tc1 cInt))) (tc1 (cTup (tcC cInt (tc1 cInt)))))))) (tcC cStr (tc1 (cTup (tcC cInt (tc1 cInt)))))) (fun x => m_swept_box x.1 x.2.1 x.2.2) (cTup (tcC (cTup (tcC cInt (tc1 cInt))) (tcC (cTup (tcC cInt (tc1 cInt))) (tcC (cTup (tcC cInt (tc1 cInt))) (tc1 (cTup (tcC cInt (tc1 cInt)))))))))) : FnP P w K mg base "passes_clear" 5 ["box", "heading", "distance", "other"] (spP K (tcC (cTup (tcC (cTup (tcC cInt (tc1 cInt))) (tcC (cTup (tcC cInt (tc1 cInt))) (tcC (cTup (tcC cInt (tc1 cInt))) (tc1 (cTup (tcC cInt (tc1 cInt)))))))) (tcC cStr (tcC (cTup (tcC cInt (tc1 cInt))) (tc1 (cTup (tcC (cTup (tcC cInt (tc1 cInt))) (tcC (cTup (tcC cInt (tc1 cInt))) (tcC (cTup (tcC cInt (tc1 cInt))) (tc1 (cTup (tcC cInt (tc1 cInt)))))))))))) (fun x => m_passes_clear x.1 x.2.1 x.2.2.1 x.2.2.2) cBool) := by
  refine fnp_of hm F (fn_top (fun _ => False) (fun _ h => h.elim) F S_passes_clear (penC (penC (penC pen1))) (fun x => [.im (cTup (tcC (cTup (tcC cInt (tc1 cInt))) (tcC (cTup (tcC cInt (tc1 cInt))) (tcC (cTup (tcC cInt (tc1 cInt))) (tc1 (cTup (tcC cInt (tc1 cInt)))))))) x.1, .im cStr x.2.1, .im (cTup (tcC cInt (tc1 cInt))) x.2.2.1, .im (cTup (tcC (cTup (tcC cInt (tc1 cInt))) (tcC (cTup (tcC cInt (tc1 cInt))) (tcC (cTup (tcC cInt (tc1 cInt))) (tc1 (cTup (tcC cInt (tc1 cInt)))))))) x.2.2.2]) fun cdv A outer s H E hr C hB x => ?_) (fun _ _ _ _ _ _ us hl => match us, hl with | [_, _, _, _], _ => rfl)
  obtain ⟨a_box, a_heading, a_distance, a_other⟩ := x
  show GK _ C _ _ (m_passes_clear a_box a_heading a_distance a_other) _
  unfold m_passes_clear
  exact (gk_one (gs_ret (ex_not (ex_call F_boxes_lap (hr.mono (by decide)) (ea_cons (ex_call F_swept_box (hr.mono (by decide)) (ea_cons (ex_var 0 (ea_cons (ex_var 1 (ea_one (ex_var 2 (⟨_, rfl, fun v1 => ea_one (ex_var 3 (⟨_, rfl, fun v2 => rfl⟩))⟩)))))))))))))
abbrev st__law_tape : Stmt := top 17
theorem S__law_tape : FnScope ["script", "mixed", "cell"] ["script"] (defScope st__law_tape) := ⟨rfl, rfl, rfl, by decide +kernel, rfl, by decide +kernel, by decide +kernel⟩
theorem ok__law_tape {fa : Addr} {fd : FuncData} (T : Txt w K mg) (F : FunD K "_law_tape" "_law_tape" (defArgs st__law_tape) (defBody st__law_tape) (defScope st__law_tape) [] [] fa fd) (hm : mg "_law_tape" = some (.ref fa)) : FnP P w K mg base "_law_tape" 1 ["script"] (spN K (tc1 cScr) (fun x => m_law_tape x) celT) := by
  refine fnp_of hm F (fn_topN F S__law_tape pen1 (fun x => [.im cScr x, .no, .no]) fun cdv A outer s H E hr C hB a_script => ?_) (fun _ _ _ _ _ _ us hl => match us, hl with | [_], _ => rfl)
  show GK _ C _ _ (m_law_tape a_script) _
  unfold m_law_tape
  exact (gk_cons (gs_set 1 (ex_int (gk_cons (gs_forS (c := cInt) (fun (s1 : Int) => [.im cScr a_script, .im cInt s1, .no]) rfl (ag_name 2 S__law_tape.nd) (ei_scr (ex_var 0 (⟨_, _, _, rfl, wk_refl, fun x2 s1 => gk_one (gs_set 1 (ex_op2 o_mod (ex_callTT b_int T.int_ bt_int (ea_one (ex_op2T o_add (ex_op2 o_mul (ex_var 1 (ex_int (⟨_, rfl, fun v3 => ex_callBT b_abs T.abs_ bt_abs (ea_one (ex_callTT b_int T.int_ bt_int (ea_one (ex_var 2 (ex_int (⟨_, rfl, fun v4 => ⟨_, rfl, wk_drops [2]⟩⟩))))))⟩)))))))) S__law_tape.nd), fun s1 => gk_one (gs_retN (ef_tape (ea_cons (ex_froz (ef_callTT n_listZ T.list_ bt_list (ea_one (ex_var 0 (ea_cons (ex_int (ea_cons (ex_int (ea_one (ex_var 1 (rfl))))))))))))))⟩))) .never))) S__law_tape.nd))
abbrev st__law_draw : Stmt := top 18
theorem S__law_draw : FnScope ["tape", "many", "place", "number"] ["tape", "many"] (defScope st__law_draw) := ⟨rfl, rfl, rfl, by decide +kernel, rfl, by decide +kernel, by decide +kernel⟩
theorem ok__law_draw {fa : Addr} {fd : FuncData} (T : Txt w K mg) (F : FunD K "_law_draw" "_law_draw" (defArgs st__law_draw) (defBody st__law_draw) (defScope st__law_draw) [] [] fa fd) (hm : mg "_law_draw" = some (.ref fa)) : FnP P w K mg base "_law_draw" 1 ["tape", "many"] (spM K celT (tc1 cInt) (fun tp x => m_law_draw tp x) cInt) := by
  refine fnp_of hm F (fn_topL F S__law_draw pen1 (fun tp x => [.lp, .im cInt x, .no, .no, .ln celT tp]) fun cdv A outer s H E hr C hB tp a_many => ?_) (fun _ _ _ _ _ _ us hl => match us, hl with | [_, _], _ => rfl)
  show GK _ C _ _ (m_law_draw tp a_many) _
  unfold m_law_draw
  exact (gk_cons (gk_joinF (fun (s1 : Tape) => [.lp, .im cInt a_many, .no, .no, .ln celT s1]) rfl (gs_if2 (et_cmp o_eq (ex_tapeF (kk := 2) 0 4 (ex_int (⟨_, _, rfl, gk_cons (gs_let 2 (ex_tapeF (kk := 1) 0 4 (⟨_, rfl, fun place_2 => gk_cons (gs_set 3 (ex_int (gk_cons (gk_join (fun (s3 : (Int × Tape)) => [.lp, .im cInt a_many, .im cInt place_2, .im cInt s3.1, .ln celT s3.2]) rfl (gs_if2 (et_cmp o_lt (ex_var 2 (ex_callBT b_lenL T.len_ bt_len (ea_one (ex_tape0 0 4 (⟨_, _, rfl, gk_one (gs_let 3 (ex_callBT b_abs T.abs_ bt_abs (ea_one (ex_callTT b_int T.int_ bt_int (ea_one (ex_ixL (ex_tape0 0 4 (ex_var 2 (⟨_, rfl, fun v4 => ⟨_, rfl, fun number_5 => ⟨_, rfl, wk_refl⟩⟩⟩)))))))) S__law_draw.nd), gk_cons (gs_tape (kk := 3) 0 4 (ex_op2 o_mod (ex_callTT b_int T.int_ bt_int (ea_one (ex_op2T o_add (ex_op2T o_add (ex_op2 o_mul (ex_tapeF (kk := 3) 0 4 (ex_int (⟨_, rfl, fun v6 => ex_var 2 (ex_int (ex_int (⟨_, rfl, fun v7 => ⟨rfl, rfl, _, rfl, gk_one (gs_let 3 (ex_tapeF (kk := 3) 0 4 (⟨_, rfl, fun number_9 => ⟨_, rfl, wk_refl⟩⟩)) S__law_draw.nd)⟩⟩)))⟩))))))))))⟩))))))) (fun s3 => gk_cons (gs_tape (kk := 1) 0 4 (ex_op2T o_add (ex_var 2 (ex_int (⟨rfl, rfl, _, rfl, gk_cons (gs_ifR (et_cmp o_lt (ex_var 3 (ex_op2 o_pow (ex_int (ex_int (⟨_, rfl, fun v11 => ⟨_, _, rfl, gk_cons (gs_set 3 (ex_op2 o_mod (ex_callTT b_int T.int_ bt_int (ea_one (ex_op2T o_add (ex_op2T o_add (ex_op2 o_mul (ex_var 3 (ex_int (⟨_, rfl, fun v12 => ex_op2 o_mul (ex_var 2 (ex_int (⟨_, rfl, fun v13 => ex_int (ex_int (⟨_, rfl, fun v14 => gk_cons (gs_set 3 (ex_op2 o_mod (ex_callTT b_int T.int_ bt_int (ea_one (ex_op2 o_mul (ex_var 3 (ex_int (⟨_, rfl, fun v15 => ex_int (⟨_, rfl, fun v16 => gk_one (gs_retL 4 (ex_op2 o_mod (ex_callTT b_int T.int_ bt_int (ea_one (ex_var 3 (ex_callBT (b_max rfl) T.max_ bt_max (ea_cons (ex_var 1 (ea_one (ex_int (⟨_, rfl, fun v17 => by exact ⟨_, rfl, rfl⟩⟩)))))))))))⟩)⟩))))))) S__law_draw.nd)⟩))⟩)))⟩))))))))) S__law_draw.nd), gk_one (gs_tape (kk := 2) 0 4 (ex_var 3 (⟨rfl, rfl, _, rfl, ⟨_, rfl, wk_drops [2, 3]⟩⟩)))⟩⟩)))))))⟩))))))))) S__law_draw.nd)⟩)) S__law_draw.nd), gk_nil (⟨_, rfl, wk_refl⟩)⟩))))) (fun s1 => gk_cons (gs_let 3 (ex_tapeF (kk := 2) 0 4 (⟨_, rfl, fun number_19 => gk_cons (gs_tape (kk := 2) 0 4 (ex_op2 o_fdiv (ex_var 3 (ex_callBT (b_max rfl) T.max_ bt_max (ea_cons (ex_var 1 (ea_one (ex_int (⟨_, rfl, fun v20 => ⟨rfl, rfl, _, rfl, gk_one (gs_retL 4 (ex_op2 o_mod (ex_callTT b_int T.int_ bt_int (ea_one (ex_var 3 (ex_callBT (b_max rfl) T.max_ bt_max (ea_cons (ex_var 1 (ea_one (ex_int (⟨_, rfl, fun v22 => by exact ⟨_, rfl, rfl⟩⟩)))))))))))⟩⟩)))))))))⟩)) S__law_draw.nd)) (fun _ => rfl) (by intro _ _ h; cases h) (by intro _ _ h; cases h)))
abbrev st__law_pick : Stmt := top 19
theorem S__law_pick : FnScope ["tape", "menu"] ["tape", "menu"] (defScope st__law_pick) := ⟨rfl, rfl, rfl, by decide +kernel, rfl, by decide +kernel, by decide +kernel⟩
theorem ok__law_pick {Aa : Type} (ca : Cod K Aa) {fa : Addr} {fd : FuncData} (T : Txt w K mg) (F : FunD K "_law_pick" "_law_pick" (defArgs st__law_pick) (defBody st__law_pick) (defScope st__law_pick) [] [] fa fd) (hm : mg "_law_pick" = some (.ref fa)) (F__law_draw : FnP P w K mg base "_law_draw" (1) ["tape", "many"] (spM K celT (tc1 cInt) (fun tp x => m_law_draw tp x) cInt)) : FnP P w K mg base "_law_pick" 2 ["tape", "menu"] (spM K celT (tc1 (cLst ca)) (fun tp x => m_law_pick tp x) ca) := by
  refine fnp_of hm F (fn_topL F S__law_pick pen1 (fun tp x => [.lp, .im (cLst ca) x, .ln celT tp]) fun cdv A outer s H E hr C hB tp a_menu => ?_) (fun _ _ _ _ _ _ us hl => match us, hl with | [_, _], _ => rfl)
  show GK _ C _ _ (m_law_pick tp a_menu) _
  unfold m_law_pick
  exact (gk_one (gs_retL 2 (ex_ixL (ex_var 1 (ex_callL 0 2 F__law_draw (hr.mono (by decide)) (ea_one (ex_callBT b_lenL T.len_ bt_len (ea_one (ex_var 1 (⟨_, rfl, rfl, _, rfl, fun v1 => ⟨_, rfl, fun v2 => by exact ⟨_, rfl, rfl⟩⟩⟩))))))))))
abbrev st__law_turns : Stmt := top 20
theorem S__law_turns : FnScope ["tape", "many", "rest", "turns", "k"] ["tape", "many"] (defScope st__law_turns) := ⟨rfl, rfl, rfl, by decide +kernel, rfl, by decide +kernel, by decide +kernel⟩
theorem ok__law_turns {fa : Addr} {fd : FuncData} (T : Txt w K mg) (F : FunD K "_law_turns" "_law_turns" (defArgs st__law_turns) (defBody st__law_turns) (defScope st__law_turns) [] [] fa fd) (hm : mg "_law_turns" = some (.ref fa)) (F__law_draw : FnP P w K mg base "_law_draw" (1) ["tape", "many"] (spM K celT (tc1 cInt) (fun tp x => m_law_draw tp x) cInt)) : FnP P w K mg base "_law_turns" 2 ["tape", "many"] (spMN K celT (tc1 cInt) (fun tp x => m_law_turns tp x) (lstC cInt)) := by
  refine fnp_of hm F (fn_topNL F S__law_turns pen1 (fun tp x => [.lp, .im cInt x, .no, .no, .no, .ln celT tp]) fun cdv A outer s H E hr C hB tp a_many => ?_) (fun _ _ _ _ _ _ us hl => match us, hl with | [_, _], _ => rfl)
  show GK _ C _ _ (m_law_turns tp a_many) _
  unfold m_law_turns
  exact (gk_cons (gs_setN (c := (lstC cInt)) 2 (ef_listRng rfl T.list_ T.range_ (ex_var 1 (⟨_, rfl, fun v1 => gk_cons (gs_setN (c := (lstC cInt)) 3 (ef_lst (el_nil (gk_cons (gs_forS (c := cInt) (fun (s3 : ((List Int) × (List Int) × Tape)) => [.lp, .im cInt a_many, .ow (lstC cInt) s3.1, .ow (lstC cInt) s3.2.1, .no, .ln celT s3.2.2]) rfl (ag_name 4 S__law_turns.nd) (ei_rng1 T.range_ (ex_var 1 (⟨_, rfl, fun v2 => ⟨_, _, _, rfl, wk_refl, fun x4 s3 => gk_one (gs_expr (ex_own 3 m_append PySem.F.slot_list_append PySem.F.type_list_append (ea_one (ex_own 2 m_popAt PySem.F.slot_list_pop PySem.F.type_list_pop (ea_one (ex_callL 0 5 F__law_draw (hr.mono (by decide)) (ea_one (ex_lenO 2 T.len_ (⟨_, rfl, rfl, _, rfl, fun v5 => ⟨rfl, _, rfl, fun v6 => ⟨rfl, _, rfl, fun v7 => ⟨_, rfl, wk_drops [4]⟩⟩⟩⟩))))))))), fun s3 => gk_wk (wk_freeze (Γ' := [.lp, .im cInt a_many, .ow (lstC cInt) s3.1, .im (cLst cInt) s3.2.1, .no, .ln celT s3.2.2]) 3 hB) (gk_one (gs_retNL 5 (ef_slL (ex_var 3 (eo_none (eo_some (ex_ixL (ex_froz (ef_lst (el_cons (ex_var 1 (el_cons (ex_var 1 (el_cons (ex_int (el_nil (ex_callL 0 5 F__law_draw (hr.mono (by decide)) (ea_one (ex_int (⟨_, rfl, rfl, _, rfl, fun v8 => ⟨_, rfl, fun v9 => by exact ⟨_, rfl, rfl⟩⟩⟩))))))))))))))))))))⟩⟩))) .never)))) S__law_turns.nd)⟩))) S__law_turns.nd))
abbrev st__law_put : Stmt := top 21
theorem S__law_put : FnScope ["told", "place", "thing"] ["told", "place", "thing"] (defScope st__law_put) := ⟨rfl, rfl, rfl, by decide +kernel, rfl, by decide +kernel, by decide +kernel⟩
theorem ok__law_put {fa : Addr} {fd : FuncData} (T : Txt w K mg) (F : FunD K "_law_put" "_law_put" (defArgs st__law_put) (defBody st__law_put) (defScope st__law_put) [] [] fa fd) (hm : mg "_law_put" = some (.ref fa)) : FnP P w K mg base "_law_put" 1 ["told", "place", "thing"] (spP K (tcC (cSeq cU) (tcC cInt (tc1 cU))) (fun x => m_law_put x.1 x.2.1 x.2.2) (cSeq cU)) := by
  refine fnp_of hm F (fn_top (fun _ => False) (fun _ h => h.elim) F S__law_put (penC (penC pen1)) (fun x => [.im (cSeq cU) x.1, .im cInt x.2.1, .im cU x.2.2]) fun cdv A outer s H E hr C hB x => ?_) (fun _ _ _ _ _ _ us hl => match us, hl with | [_, _, _], _ => rfl)
  obtain ⟨a_told, a_place, a_thing⟩ := x
  show GK _ C _ _ (m_law_put a_told a_place a_thing) _
  unfold m_law_put
  exact (gk_one (gs_ret (ex_op2 o_catS (ex_op2 o_catS (ex_slS (ex_var 0 (eo_none (eo_some (ex_var 1 (ex_tupS (el_cons (ex_var 2 (el_nil (⟨_, rfl, fun v1 => ex_slS (ex_var 0 (eo_some (ex_op2T o_add (ex_var 1 (ex_int (eo_none (⟨_, rfl, fun v2 => rfl⟩)))))))⟩))))))))))))))
abbrev st__law_same : Stmt := top 22
theorem S__law_same : FnScope ["told", "wanted", "k"] ["told", "wanted"] (defScope st__law_same) := ⟨rfl, rfl, rfl, by decide +kernel, rfl, by decide +kernel, by decide +kernel⟩
theorem ok__law_same {fa : Addr} {fd : FuncData} (T : Txt w K mg) (F : FunD K "_law_same" "_law_same" (defArgs st__law_same) (defBody st__law_same) (defScope st__law_same) [] [] fa fd) (hm : mg "_law_same" = some (.ref fa)) : ∀ fuel : Nat, FnP P w K mg base "_law_same" (1 + fuel) ["told", "wanted"] (spP K (tcC cU (tc1 cU)) (fun x => m_law_same fuel x.1 x.2) cBool)
  | 0 => by
    refine fnp_of hm F (FnOk.mono (fn_top (fun _ => False) (fun _ h => h.elim) (k := 0) F S__law_same (penC pen1) (fun x => [.im cU x.1, .im cU x.2, .no]) fun cdv A outer s H E hr C hB x => gk_stuck) (by omega)) (fun _ _ _ _ _ _ us hl => match us, hl with | [_, _], _ => rfl)
  | fuel + 1 => by
    have F__law_same := ok__law_same T F hm fuel
    refine fnp_of hm F (fn_top (fun _ => False) (fun _ h => h.elim) F S__law_same (penC pen1) (fun x => [.im cU x.1, .im cU x.2, .no]) fun cdv A outer s H E hr C hB x => ?_) (fun _ _ _ _ _ _ us hl => match us, hl with | [_, _], _ => rfl)
    obtain ⟨a_told, a_wanted⟩ := x
    show GK _ C _ _ (m_law_same (fuel + 1) a_told a_wanted) _
    unfold m_law_same
    exact (gk_cons (gs_ifR (et_val (ex_isi (T := "tuple") T.isinstance_ T.tuple_ bt_tuple (ex_var 1 (⟨_, rfl, fun v1 => ⟨_, _, rfl, gk_cons (gs_ifR (et_w (ew_or (fun (c : Bool) => c) (fun _ => [.im cU a_told, .im cU a_wanted, .no]) (ew_not (et_val (ex_isi (T := "tuple") T.isinstance_ T.tuple_ bt_tuple (ex_var 0 (⟨_, rfl, fun v2 => ⟨_, true, _, rfl, rfl, wk_refl, ew_or1 (et_cmp o_ne (ex_callB b_lenU T.len_ bt_len (ea_one (ex_var 0 (⟨_, rfl, fun v3 => ex_callB b_lenU T.len_ bt_len (ea_one (ex_var 1 (⟨_, rfl, fun v4 => fin wk_refl⟩)))⟩))))), fun c5 => ⟨_, _, rfl, gk_one (gs_ret (ex_bl (rfl))), gk_cons (gs_forF (c := cInt) (fun (s8 : Unit) => [.im cU a_told, .im cU a_wanted, .no]) rfl (ag_name 2 S__law_same.nd) (ei_rng1 T.range_ (ex_callB b_lenU T.len_ bt_len (ea_one (ex_var 1 (⟨_, rfl, fun v6 => ⟨_, rfl, fun v7 => ⟨_, _, _, rfl, wk_refl, fun x9 s8 => gk_one (gs_ifR (ew_not (et_val (ex_call F__law_same (hr.mono (by (try simp only [Nat.add_eq]); omega)) (ea_cons (ex_ixU (ex_var 0 (ex_var 2 (⟨_, rfl, fun v10 => ea_one (ex_ixU (ex_var 1 (ex_var 2 (⟨_, rfl, fun v11 => ⟨_, rfl, fun v12 => ⟨_, _, rfl, gk_one (gs_ret (ex_bl (rfl))), ⟨_, rfl, wk_drops [2]⟩⟩⟩⟩))))⟩))))))))), fun s8 => gk_one (gs_ret (ex_bl (rfl))), fun _ => rfl⟩⟩⟩))))) .never)⟩⟩⟩)))))))), gk_cons (gs_ifR (et_w (ew_or (fun (c : Bool) => c) (fun _ => [.im cU a_told, .im cU a_wanted, .no]) (et_isU (ex_var 1 (⟨_, rfl, fun v13 => ⟨_, true, _, rfl, rfl, wk_refl, ew_or1 (et_isU (ex_var 0 (⟨_, rfl, fun v14 => fin wk_refl⟩))), fun c15 => ⟨_, _, rfl, gk_one (gs_ret (ex_and (fun (c : Bool) => c) (fun _ => [.im cU a_told, .im cU a_wanted, .no]) (ex_isU (ex_var 1 (⟨_, rfl, fun v16 => ⟨_, false, _, rfl, rfl, wk_refl, ex_one (ex_isU (ex_var 0 (⟨_, rfl, fun v17 => fin wk_refl⟩))), fun c18 => rfl⟩⟩))))), gk_cons (gs_ifR (et_val (ex_isi (T := "str") T.isinstance_ T.str_ bt_str (ex_var 1 (⟨_, rfl, fun v19 => ⟨_, _, rfl, gk_one (gs_ret (ex_and (fun (c : Bool) => c) (fun _ => [.im cU a_told, .im cU a_wanted, .no]) (ex_isi (T := "str") T.isinstance_ T.str_ bt_str (ex_var 0 (⟨_, rfl, fun v20 => ⟨_, false, _, rfl, rfl, wk_refl, ex_one (ex_cmpP o_eqU (ex_var 0 (ex_var 1 (⟨_, rfl, fun v21 => fin wk_refl⟩)))), fun c22 => rfl⟩⟩))))), gk_cons (gs_ifR (et_w (ew_or (fun (c : Bool) => c) (fun _ => [.im cU a_told, .im cU a_wanted, .no]) (et_cmp o_neB (ex_isi (T := "bool") T.isinstance_ T.bool_ bt_bool (ex_var 0 (⟨_, rfl, fun v23 => ex_isi (T := "bool") T.isinstance_ T.bool_ bt_bool (ex_var 1 (⟨_, rfl, fun v24 => ⟨_, true, _, rfl, rfl, wk_refl, ew_or1 (ew_not (et_val (ex_isi (T := "int") T.isinstance_ T.int_ bt_int (ex_var 0 (⟨_, rfl, fun v25 => fin wk_refl⟩))))), fun c26 => ⟨_, _, rfl, gk_one (gs_ret (ex_bl (rfl))), gk_one (gs_ret (ex_cmpP o_eqU (ex_var 0 (ex_var 1 (⟨_, rfl, fun v27 => rfl⟩)))))⟩⟩⟩))⟩)))))))⟩⟩)))))⟩⟩⟩))))))⟩⟩))))))
abbrev st__law_low : Stmt := top 23
theorem S__law_low : FnScope ["n", "d", "a", "b"] ["n", "d"] (defScope st__law_low) := ⟨rfl, rfl, rfl, by decide +kernel, rfl, by decide +kernel, by decide +kernel⟩
theorem ok__law_low {fa : Addr} {fd : FuncData} (T : Txt w K mg) (F : FunD K "_law_low" "_law_low" (defArgs st__law_low) (defBody st__law_low) (defScope st__law_low) [] [] fa fd) (hm : mg "_law_low" = some (.ref fa)) : FnP P w K mg base "_law_low" 1 ["n", "d"] (spP K (tcC cInt (tc1 cInt)) (fun x => m_law_low x.1 x.2) (cTup (tcC cInt (tc1 cInt)))) := by
  refine fnp_of hm F (fn_top (fun _ => False) (fun _ h => h.elim) F S__law_low (penC pen1) (fun x => [.im cInt x.1, .im cInt x.2, .no, .no]) fun cdv A outer s H E hr C hB x => ?_) (fun _ _ _ _ _ _ us hl => match us, hl with | [_, _], _ => rfl)
  obtain ⟨a_n, a_d⟩ := x
  show GK _ C _ _ (m_law_low a_n a_d) _
  unfold m_law_low
  exact (gk_cons (gs_let 2 (ex_callBT b_abs T.abs_ bt_abs (ea_one (ex_var 0 (⟨_, rfl, fun a_1 => gk_cons (gs_let 3 (ex_callBT b_abs T.abs_ bt_abs (ea_one (ex_var 1 (⟨_, rfl, fun b_2 => gk_cons (gs_while _ _ _ _ (fun (s3 : (Int × Int)) => [.im cInt a_n, .im cInt a_d, .im cInt s3.1, .im cInt s3.2]) rfl (wk_refl) (fun s3 => et_cmp o_gt (ex_var 3 (ex_int (⟨_, rfl, wk_refl, gk_one (gs_par 2 3 rfl S__law_low.nd (ea_cons (ex_var 3 (ea_one (ex_op2 o_mod (ex_callTT b_int T.int_ bt_int (ea_one (ex_var 2 (ex_var 3 (⟨_, rfl, fun v4 => ⟨_, rfl, wk_refl⟩⟩))))))))))⟩)))) (fun s3 => gk_cons (gk_join (fun (s5 : Int) => [.im cInt a_n, .im cInt a_d, .im cInt s5, .im cInt s3.2]) rfl (gs_if2 (et_cmp o_lt (ex_var 1 (ex_int (⟨_, _, rfl, gk_one (gs_let 2 (ex_op2T o_sub (ex_int (ex_var 2 (⟨_, rfl, fun a_6 => ⟨_, rfl, wk_refl⟩⟩)))) S__law_low.nd), gk_nil (⟨_, rfl, wk_refl⟩)⟩))))) (fun s5 => gk_one (gs_ret (ex_tup (ea_cons (ex_op2 o_fdiv (ex_var 0 (ex_var 2 (⟨_, rfl, fun v7 => ea_one (ex_op2 o_fdiv (ex_var 1 (ex_var 2 (⟨_, rfl, fun v8 => rfl⟩))))⟩)))))))))) (fun _ => rfl) .never)⟩)))) S__law_low.nd)⟩)))) S__law_low.nd))
def m_law_given (a_box : (Int × Int × Int × Int)) (a_unit : Int) : Option (List (Int × Int)) :=
 mapR (fun x1 => m_law_low x1 a_unit >>= fun v2 =>
 some v2) ([a_box.1, a_box.2.1, a_box.2.2.1, a_box.2.2.2]) >>= fun ys3 =>
 some ys3
abbrev st__law_given : Stmt := top 24
theorem S__law_given : FnScope ["box", "unit", "number"] ["box", "unit"] (defScope st__law_given) := ⟨rfl, rfl, rfl, by decide +kernel, rfl, by decide +kernel, by decide +kernel⟩
theorem ok__law_given {fa : Addr} {fd : FuncData} (T : Txt w K mg) (F : FunD K "_law_given" "_law_given" (defArgs st__law_given) (defBody st__law_given) (defScope st__law_given) [] [] fa fd) (hm : mg "_law_given" = some (.ref fa)) (F__law_low : FnP P w K mg base "_law_low" (1) ["n", "d"] (spP K (tcC cInt (tc1 cInt)) (fun x => m_law_low x.1 x.2) (cTup (tcC cInt (tc1 cInt))))) : FnP P w K mg base "_law_given" 2 ["box", "unit"] (spP K (tcC (cTup (tcC cInt (tcC cInt (tcC cInt (tc1 cInt))))) (tc1 cInt)) (fun x => m_law_given x.1 x.2) (cSeq (cTup (tcC cInt (tc1 cInt))))) := by
  refine fnp_of hm F (fn_top (fun _ => False) (fun _ h => h.elim) F S__law_given (penC pen1) (fun x => [.im (cTup (tcC cInt (tcC cInt (tcC cInt (tc1 cInt))))) x.1, .im cInt x.2, .no]) fun cdv A outer s H E hr C hB x => ?_) (fun _ _ _ _ _ _ us hl => match us, hl with | [_, _], _ => rfl)
  obtain ⟨a_box, a_unit⟩ := x
  show GK _ C _ _ (m_law_given a_box a_unit) _
  unfold m_law_given
  exact (gk_one (gs_ret (ex_callTT b_tupL T.tuple_ bt_tuple (ea_one (ex_froz (ef_lc rfl S__law_given.nd (lc_map (ws := [2]) (up := fun Γ (x : Int) => (Γ.set 2 (.im cInt x))) (blkOk_by (own := [("number", 2)]) (by kernel_rfl)) (fun C' sh H Cc cl fp => (ag_name 2 S__law_given.nd)) (ei_seq (ex_tsq (tsqC (tsqC (tsqC tsq1))) (ex_var 0 (⟨_, _, rfl, fun ys3 => rfl, fun C' sh H Cc cl fp x1 => ex_call F__law_low (hr.mono (by decide)) (ea_cons (ex_var 2 (ea_one (ex_var 1 (⟨_, rfl, fun v2 => ⟨rfl, wk_refl⟩⟩)))))⟩)))))))))))
abbrev st__law_point : Stmt := top 25
theorem S__law_point : FnScope ["boxes", "x", "y", "box"] ["boxes", "x", "y"] (defScope st__law_point) := ⟨rfl, rfl, rfl, by decide +kernel, rfl, by decide +kernel, by decide +kernel⟩
theorem ok__law_point {fa : Addr} {fd : FuncData} (T : Txt w K mg) (F : FunD K "_law_point" "_law_point" (defArgs st__law_point) (defBody st__law_point) (defScope st__law_point) [] [] fa fd) (hm : mg "_law_point" = some (.ref fa)) : FnP P w K mg base "_law_point" 1 ["boxes", "x", "y"] (spP K (tcC (cLst (cTup (tcC cInt (tcC cInt (tcC cInt (tc1 cInt)))))) (tcC cInt (tc1 cInt))) (fun x => m_law_point x.1 x.2.1 x.2.2) cBool) := by
  refine fnp_of hm F (fn_top (fun _ => False) (fun _ h => h.elim) F S__law_point (penC (penC pen1)) (fun x => [.im (cLst (cTup (tcC cInt (tcC cInt (tcC cInt (tc1 cInt)))))) x.1, .im cInt x.2.1, .im cInt x.2.2, .no]) fun cdv A outer s H E hr C hB x => ?_) (fun _ _ _ _ _ _ us hl => match us, hl with | [_, _, _], _ => rfl)
  obtain ⟨a_boxes, a_x, a_y⟩ := x
  show GK _ C _ _ (m_law_point a_boxes a_x a_y) _
  unfold m_law_point
  exact (gk_cons (gs_forF (c := (cTup (tcC cInt (tcC cInt (tcC cInt (tc1 cInt)))))) (fun (s1 : Unit) => [.im (cLst (cTup (tcC cInt (tcC cInt (tcC cInt (tc1 cInt)))))) a_boxes, .im cInt a_x, .im cInt a_y, .no]) rfl (ag_name 3 S__law_point.nd) (ei_lst (ex_var 0 (⟨_, _, _, rfl, wk_refl, fun x2 s1 => gk_one (gs_ifR (et_w (ew_andT (et_cmp o_le (ex_ixT (i := 0) nthZ (ex_var 3 (ex_var 1 (⟨((decide (a_x ≤ x2.2.2.1)) && ((decide (x2.2.1 ≤ a_y)) && (decide (a_y ≤ x2.2.2.2)))), ew_andT (et_cmp o_le (ex_var 1 (ex_ixT (i := 2) (nthS (nthS nthZ)) (ex_var 3 (⟨((decide (x2.2.1 ≤ a_y)) && (decide (a_y ≤ x2.2.2.2))), ew_andT (et_cmp o_le (ex_ixT (i := 1) (nthS nthZ) (ex_var 3 (ex_var 2 (⟨(decide (a_y ≤ x2.2.2.2)), ew_and1 (et_cmp o_le (ex_var 2 (ex_ixT (i := 3) (nthS (nthS (nthS nthL))) (ex_var 3 (fin wk_refl))))), fin wk_refl⟩))))), fin wk_refl⟩))))), ⟨_, _, rfl, gk_one (gs_ret (ex_bl (rfl))), ⟨_, rfl, wk_drops [3]⟩⟩⟩)))))))), fun s1 => gk_one (gs_ret (ex_bl (rfl))), fun _ => rfl⟩))) .never))
abbrev st__law_covered : Stmt := top 26
theorem S__law_covered : FnScope ["boxes", "x", "y", "box"] ["boxes", "x", "y"] (defScope st__law_covered) := ⟨rfl, rfl, rfl, by decide +kernel, rfl, by decide +kernel, by decide +kernel⟩
theorem ok__law_covered {fa : Addr} {fd : FuncData} (T : Txt w K mg) (F : FunD K "_law_covered" "_law_covered" (defArgs st__law_covered) (defBody st__law_covered) (defScope st__law_covered) [] [] fa fd) (hm : mg "_law_covered" = some (.ref fa)) : FnP P w K mg base "_law_covered" 1 ["boxes", "x", "y"] (spP K (tcC (cLst (cTup (tcC cInt (tcC cInt (tcC cInt (tc1 cInt)))))) (tcC cInt (tc1 cInt))) (fun x => m_law_covered x.1 x.2.1 x.2.2) cBool) := by
  refine fnp_of hm F (fn_top (fun _ => False) (fun _ h => h.elim) F S__law_covered (penC (penC pen1)) (fun x => [.im (cLst (cTup (tcC cInt (tcC cInt (tcC cInt (tc1 cInt)))))) x.1, .im cInt x.2.1, .im cInt x.2.2, .no]) fun cdv A outer s H E hr C hB x => ?_) (fun _ _ _ _ _ _ us hl => match us, hl with | [_, _, _], _ => rfl)
  obtain ⟨a_boxes, a_x, a_y⟩ := x
  show GK _ C _ _ (m_law_covered a_boxes a_x a_y) _
  unfold m_law_covered
  exact (gk_cons (gs_forF (c := (cTup (tcC cInt (tcC cInt (tcC cInt (tc1 cInt)))))) (fun (s1 : Unit) => [.im (cLst (cTup (tcC cInt (tcC cInt (tcC cInt (tc1 cInt)))))) a_boxes, .im cInt a_x, .im cInt a_y, .no]) rfl (ag_name 3 S__law_covered.nd) (ei_lst (ex_var 0 (⟨_, _, _, rfl, wk_refl, fun x2 s1 => gk_one (gs_ifR (et_w (ew_and (fun (c : Bool) => c) (fun _ => [.im (cLst (cTup (tcC cInt (tcC cInt (tcC cInt (tc1 cInt)))))) a_boxes, .im cInt a_x, .im cInt a_y, .im (cTup (tcC cInt (tcC cInt (tcC cInt (tc1 cInt))))) x2]) (et_cmp o_lt (ex_op2 o_mul (ex_int (ex_ixT (i := 0) nthZ (ex_var 3 (⟨_, rfl, fun v3 => ex_var 1 (⟨_, false, _, rfl, rfl, wk_refl, ew_and (fun (c : Bool) => c) (fun _ => [.im (cLst (cTup (tcC cInt (tcC cInt (tcC cInt (tc1 cInt)))))) a_boxes, .im cInt a_x, .im cInt a_y, .im (cTup (tcC cInt (tcC cInt (tcC cInt (tc1 cInt))))) x2]) (et_cmp o_lt (ex_var 1 (ex_op2 o_mul (ex_int (ex_ixT (i := 2) (nthS (nthS nthZ)) (ex_var 3 (⟨_, rfl, fun v4 => ⟨_, false, _, rfl, rfl, wk_refl, ew_and (fun (c : Bool) => c) (fun _ => [.im (cLst (cTup (tcC cInt (tcC cInt (tcC cInt (tc1 cInt)))))) a_boxes, .im cInt a_x, .im cInt a_y, .im (cTup (tcC cInt (tcC cInt (tcC cInt (tc1 cInt))))) x2]) (et_cmp o_lt (ex_op2 o_mul (ex_int (ex_ixT (i := 1) (nthS nthZ) (ex_var 3 (⟨_, rfl, fun v5 => ex_var 2 (⟨_, false, _, rfl, rfl, wk_refl, ew_and1 (et_cmp o_lt (ex_var 2 (ex_op2 o_mul (ex_int (ex_ixT (i := 3) (nthS (nthS (nthS nthL))) (ex_var 3 (⟨_, rfl, fun v6 => fin wk_refl⟩))))))), fun c7 => fin wk_refl⟩)⟩)))))), fun c8 => fin wk_refl⟩⟩))))))), fun c9 => ⟨_, _, rfl, gk_one (gs_ret (ex_bl (rfl))), ⟨_, rfl, wk_drops [3]⟩⟩⟩)⟩))))))))), fun s1 => gk_one (gs_ret (ex_bl (rfl))), fun _ => rfl⟩))) .never))
abbrev st__law_inner : Stmt := top 27
theorem S__law_inner : FnScope ["boxes", "x", "y", "step"] ["boxes", "x", "y"] (defScope st__law_inner) := ⟨rfl, rfl, rfl, by decide +kernel, rfl, by decide +kernel, by decide +kernel⟩
theorem ok__law_inner {fa : Addr} {fd : FuncData} (T : Txt w K mg) (F : FunD K "_law_inner" "_law_inner" (defArgs st__law_inner) (defBody st__law_inner) (defScope st__law_inner) [] [] fa fd) (hm : mg "_law_inner" = some (.ref fa)) (F__law_covered : FnP P w K mg base "_law_covered" (1) ["boxes", "x", "y"] (spP K (tcC (cLst (cTup (tcC cInt (tcC cInt (tcC cInt (tc1 cInt)))))) (tcC cInt (tc1 cInt))) (fun x => m_law_covered x.1 x.2.1 x.2.2) cBool)) : FnP P w K mg base "_law_inner" 2 ["boxes", "x", "y"] (spP K (tcC (cLst (cTup (tcC cInt (tcC cInt (tcC cInt (tc1 cInt)))))) (tcC cInt (tc1 cInt))) (fun x => m_law_inner x.1 x.2.1 x.2.2) cBool) := by
  refine fnp_of hm F (fn_top (fun _ => False) (fun _ h => h.elim) F S__law_inner (penC (penC pen1)) (fun x => [.im (cLst (cTup (tcC cInt (tcC cInt (tcC cInt (tc1 cInt)))))) x.1, .im cInt x.2.1, .im cInt x.2.2, .no]) fun cdv A outer s H E hr C hB x => ?_) (fun _ _ _ _ _ _ us hl => match us, hl with | [_, _, _], _ => rfl)
  obtain ⟨a_boxes, a_x, a_y⟩ := x
  show GK _ C _ _ (m_law_inner a_boxes a_x a_y) _
  unfold m_law_inner
  exact (gk_cons (gs_forF (c := (cTup (tcC cInt (tc1 cInt)))) (fun (s1 : Unit) => [.im (cLst (cTup (tcC cInt (tcC cInt (tcC cInt (tc1 cInt)))))) a_boxes, .im cInt a_x, .im cInt a_y, .no]) rfl (ag_name 3 S__law_inner.nd) (ei_lst (ex_froz (ef_lst (el_cons (ex_tup (ea_cons (ex_int (ea_one (ex_int (el_cons (ex_tup (ea_cons (ex_neg (ex_int (ea_one (ex_int (el_cons (ex_tup (ea_cons (ex_int (ea_one (ex_neg (ex_int (el_cons (ex_tup (ea_cons (ex_neg (ex_int (ea_one (ex_neg (ex_int (el_nil (⟨_, _, _, rfl, wk_refl, fun x2 s1 => gk_one (gs_ifR (ew_not (et_val (ex_call F__law_covered (hr.mono (by decide)) (ea_cons (ex_var 0 (ea_cons (ex_op2T o_add (ex_op2 o_mul (ex_int (ex_var 1 (⟨_, rfl, fun v3 => ex_ixT (i := 0) nthZ (ex_var 3 (ea_one (ex_op2T o_add (ex_op2 o_mul (ex_int (ex_var 2 (⟨_, rfl, fun v4 => ex_ixT (i := 1) (nthS nthL) (ex_var 3 (⟨_, rfl, fun v5 => ⟨_, _, rfl, gk_one (gs_ret (ex_bl (rfl))), ⟨_, rfl, wk_drops [3]⟩⟩⟩))⟩)))))))⟩)))))))))))), fun s1 => gk_one (gs_ret (ex_bl (rfl))), fun _ => rfl⟩))))))))))))))))))))))))))))))))) .never))
abbrev st__law_cuts : Stmt := top 28
theorem S__law_cuts : FnScope ["boxes", "low", "told", "k", "box"] ["boxes", "low"] (defScope st__law_cuts) := ⟨rfl, rfl, rfl, by decide +kernel, rfl, by decide +kernel, by decide +kernel⟩
theorem ok__law_cuts {fa : Addr} {fd : FuncData} (T : Txt w K mg) (F : FunD K "_law_cuts" "_law_cuts" (defArgs st__law_cuts) (defBody st__law_cuts) (defScope st__law_cuts) [] [] fa fd) (hm : mg "_law_cuts" = some (.ref fa)) : FnP P w K mg base "_law_cuts" 1 ["boxes", "low"] (spP K (tcC (cLst (cTup (tcC cInt (tcC cInt (tcC cInt (tc1 cInt)))))) (tc1 cInt)) (fun x => m_law_cuts x.1 x.2) (cLst cInt)) := by
  refine fnp_of hm F (fn_top (fun _ => False) (fun _ h => h.elim) F S__law_cuts (penC pen1) (fun x => [.im (cLst (cTup (tcC cInt (tcC cInt (tcC cInt (tc1 cInt)))))) x.1, .im cInt x.2, .no, .no, .no]) fun cdv A outer s H E hr C hB x => ?_) (fun _ _ _ _ _ _ us hl => match us, hl with | [_, _], _ => rfl)
  obtain ⟨a_boxes, a_low⟩ := x
  show GK _ C _ _ (m_law_cuts a_boxes a_low) _
  unfold m_law_cuts
  exact (gk_cons (gs_set 2 (ex_froz (ef_sortSet rfl T.sorted_ T.set_ (ex_op2 o_catL (ex_froz (ef_lc rfl S__law_cuts.nd (lc_map (ws := [4]) (up := fun Γ (x : (Int × Int × Int × Int)) => (Γ.set 4 (.im (cTup (tcC cInt (tcC cInt (tcC cInt (tc1 cInt))))) x))) (blkOk_by (own := [("box", 4)]) (by kernel_rfl)) (fun C' sh H Cc cl fp => (ag_name 4 S__law_cuts.nd)) (ei_lst (ex_var 0 (⟨_, _, rfl, fun ys3 => ex_froz (ef_lc rfl S__law_cuts.nd (lc_map (ws := [4]) (up := fun Γ (x : (Int × Int × Int × Int)) => (Γ.set 4 (.im (cTup (tcC cInt (tcC cInt (tcC cInt (tc1 cInt))))) x))) (blkOk_by (own := [("box", 4)]) (by kernel_rfl)) (fun C' sh H Cc cl fp => (ag_name 4 S__law_cuts.nd)) (ei_lst (ex_var 0 (⟨_, _, rfl, fun ys6 => ⟨_, rfl, fun v7 => ⟨_, rfl, fun v8 => gk_one (gs_ret (ex_op2 o_catL (ex_var 2 (ex_froz (ef_lc rfl S__law_cuts.nd (lc_map (ws := [3]) (up := fun Γ (x : Int) => (Γ.set 3 (.im cInt x))) (blkOk_by (own := [("k", 3)]) (by kernel_rfl)) (fun C' sh H Cc cl fp => (ag_name 3 S__law_cuts.nd)) (ei_rng1 T.range_ (ex_op2T o_sub (ex_callBT b_lenL T.len_ bt_len (ea_one (ex_var 2 (ex_int (⟨_, rfl, fun v9 => ⟨_, _, rfl, fun ys14 => ⟨_, rfl, fun v15 => rfl⟩, fun C' sh H Cc cl fp x10 => ex_op2 o_fdiv (ex_op2T o_add (ex_ixL (ex_var 2 (ex_var 3 (⟨_, rfl, fun v11 => ex_ixL (ex_var 2 (ex_op2T o_add (ex_var 3 (ex_int (⟨_, rfl, fun v12 => ex_int (⟨_, rfl, fun v13 => ⟨rfl, wk_refl⟩⟩)⟩)))))⟩)))))⟩⟩)))))))))))))⟩⟩, fun C' sh H Cc cl fp x4 => ex_ixS (ex_tsq (tsqC (tsqC (tsqC tsq1))) (ex_var 4 (ex_op2T o_add (ex_var 1 (ex_int (⟨_, rfl, fun v5 => ⟨rfl, wk_refl⟩⟩))))))⟩))))), fun C' sh H Cc cl fp x1 => ex_ixS (ex_tsq (tsqC (tsqC (tsqC tsq1))) (ex_var 4 (ex_var 1 (⟨_, rfl, fun v2 => ⟨rfl, wk_refl⟩⟩))))⟩))))))))) S__law_cuts.nd))
abbrev st__law_few : Stmt := top 29
theorem S__law_few : FnScope ["boxes", "few", "across", "x", "y"] ["boxes"] (defScope st__law_few) := ⟨rfl, rfl, rfl, by decide +kernel, rfl, by decide +kernel, by decide +kernel⟩
theorem ok__law_few {fa : Addr} {fd : FuncData} (T : Txt w K mg) (F : FunD K "_law_few" "_law_few" (defArgs st__law_few) (defBody st__law_few) (defScope st__law_few) [] [] fa fd) (hm : mg "_law_few" = some (.ref fa)) (F__law_cuts : FnP P w K mg base "_law_cuts" (1) ["boxes", "low"] (spP K (tcC (cLst (cTup (tcC cInt (tcC cInt (tcC cInt (tc1 cInt)))))) (tc1 cInt)) (fun x => m_law_cuts x.1 x.2) (cLst cInt))) : FnP P w K mg base "_law_few" 2 ["boxes"] (spP K (tc1 (cLst (cTup (tcC cInt (tcC cInt (tcC cInt (tc1 cInt))))))) (fun x => m_law_few x) (cLst (cTup (tcC cInt (tc1 cInt))))) := by
  refine fnp_of hm F (fn_top (fun _ => False) (fun _ h => h.elim) F S__law_few pen1 (fun x => [.im (cLst (cTup (tcC cInt (tcC cInt (tcC cInt (tc1 cInt)))))) x, .no, .no, .no, .no]) fun cdv A outer s H E hr C hB a_boxes => ?_) (fun _ _ _ _ _ _ us hl => match us, hl with | [_], _ => rfl)
  show GK _ C _ _ (m_law_few a_boxes) _
  unfold m_law_few
  exact (gk_cons (gs_setN (c := (lstC (cTup (tcC cInt (tc1 cInt))))) 1 (ef_lst (el_nil (gk_cons (gs_set 2 (ex_call F__law_cuts (hr.mono (by decide)) (ea_cons (ex_var 0 (ea_one (ex_int (⟨_, rfl, fun v1 => gk_cons (gs_forS (c := cInt) (fun (s3 : (List (Int × Int))) => [.im (cLst (cTup (tcC cInt (tcC cInt (tcC cInt (tc1 cInt)))))) a_boxes, .ow (lstC (cTup (tcC cInt (tc1 cInt)))) s3, .im (cLst cInt) v1, .no, .no]) rfl (ag_name 3 S__law_few.nd) (ei_lst (ex_call F__law_cuts (hr.mono (by decide)) (ea_cons (ex_var 0 (ea_one (ex_int (⟨_, rfl, fun v2 => ⟨_, _, _, rfl, wk_refl, fun x4 s3 => gk_one (gs_forS (c := cInt) (fun (s5 : (List (Int × Int))) => [.im (cLst (cTup (tcC cInt (tcC cInt (tcC cInt (tc1 cInt)))))) a_boxes, .ow (lstC (cTup (tcC cInt (tc1 cInt)))) s5, .im (cLst cInt) v1, .im cInt x4, .no]) rfl (ag_name 4 S__law_few.nd) (ei_lst (ex_var 2 (⟨_, _, _, rfl, wk_refl, fun x6 s5 => gk_one (gs_expr (ex_own 1 m_append PySem.F.slot_list_append PySem.F.type_list_append (ea_one (ex_tup (ea_cons (ex_var 3 (ea_one (ex_var 4 (⟨rfl, _, rfl, fun v7 => ⟨_, rfl, wk_drops [4]⟩⟩))))))))), fun s5 => ⟨_, rfl, wk_drops [3]⟩⟩))) .never), fun s3 => gk_wk (wk_freeze (Γ' := [.im (cLst (cTup (tcC cInt (tcC cInt (tcC cInt (tc1 cInt)))))) a_boxes, .im (cLst (cTup (tcC cInt (tc1 cInt)))) s3, .im (cLst cInt) v1, .no, .no]) 1 hB) (gk_one (gs_ret (ex_var 1 (rfl))))⟩⟩))))))) .never)⟩)))))) S__law_few.nd)))) S__law_few.nd))
abbrev st__law_lap : Stmt := top 30
theorem S__law_lap : FnScope ["one", "two", "p", "q", "x", "y"] ["one", "two"] (defScope st__law_lap) := ⟨rfl, rfl, rfl, by decide +kernel, rfl, by decide +kernel, by decide +kernel⟩
theorem ok__law_lap {fa : Addr} {fd : FuncData} (T : Txt w K mg) (F : FunD K "_law_lap" "_law_lap" (defArgs st__law_lap) (defBody st__law_lap) (defScope st__law_lap) [] [] fa fd) (hm : mg "_law_lap" = some (.ref fa)) (F__law_few : FnP P w K mg base "_law_few" (2) ["boxes"] (spP K (tc1 (cLst (cTup (tcC cInt (tcC cInt (tcC cInt (tc1 cInt))))))) (fun x => m_law_few x) (cLst (cTup (tcC cInt (tc1 cInt)))))) (F__law_point : FnP P w K mg base "_law_point" (1) ["boxes", "x", "y"] (spP K (tcC (cLst (cTup (tcC cInt (tcC cInt (tcC cInt (tc1 cInt)))))) (tcC cInt (tc1 cInt))) (fun x => m_law_point x.1 x.2.1 x.2.2) cBool)) (F__law_inner : FnP P w K mg base "_law_inner" (2) ["boxes", "x", "y"] (spP K (tcC (cLst (cTup (tcC cInt (tcC cInt (tcC cInt (tc1 cInt)))))) (tcC cInt (tc1 cInt))) (fun x => m_law_inner x.1 x.2.1 x.2.2) cBool)) : FnP P w K mg base "_law_lap" 3 ["one", "two"] (spP K (tcC (cLst (cTup (tcC cInt (tcC cInt (tcC cInt (tc1 cInt)))))) (tc1 (cLst (cTup (tcC cInt (tcC cInt (tcC cInt (tc1 cInt)))))))) (fun x => m_law_lap x.1 x.2) cBool) := by
  refine fnp_of hm F (fn_top (fun _ => False) (fun _ h => h.elim) F S__law_lap (penC pen1) (fun x => [.im (cLst (cTup (tcC cInt (tcC cInt (tcC cInt (tc1 cInt)))))) x.1, .im (cLst (cTup (tcC cInt (tcC cInt (tcC cInt (tc1 cInt)))))) x.2, .no, .no, .no, .no]) fun cdv A outer s H E hr C hB x => ?_) (fun _ _ _ _ _ _ us hl => match us, hl with | [_, _], _ => rfl)
  obtain ⟨a_one, a_two⟩ := x
  show GK _ C _ _ (m_law_lap a_one a_two) _
  unfold m_law_lap
  exact (gk_cons (gs_ifR (et_w (ew_andT (et_cmp o_eq (ex_callBT b_lenL T.len_ bt_len (ea_one (ex_var 0 (ex_int (⟨(decide ((a_two.length : Int) = (1 : Int))), ew_and1 (et_cmp o_eq (ex_callBT b_lenL T.len_ bt_len (ea_one (ex_var 1 (ex_int (fin wk_refl)))))), ⟨_, _, rfl, gk_cons (gs_set 2 (ex_ixL (ex_var 0 (ex_int (⟨_, rfl, fun v1 => gk_cons (gs_set 3 (ex_ixL (ex_var 1 (ex_int (⟨_, rfl, fun v2 => gk_cons (gs_ifR (et_w (ew_andT (et_w (ew_orT (et_cmp o_eq (ex_ixT (i := 0) nthZ (ex_var 2 (ex_ixT (i := 2) (nthS (nthS nthZ)) (ex_var 2 (⟨(decide (v1.2.1 = v1.2.2.2)), ew_or1 (et_cmp o_eq (ex_ixT (i := 1) (nthS nthZ) (ex_var 2 (ex_ixT (i := 3) (nthS (nthS (nthS nthL))) (ex_var 2 (fin wk_refl)))))), ⟨((decide (v2.1 = v2.2.2.1)) || (decide (v2.2.1 = v2.2.2.2))), ew_and1 (et_w (ew_orT (et_cmp o_eq (ex_ixT (i := 0) nthZ (ex_var 3 (ex_ixT (i := 2) (nthS (nthS nthZ)) (ex_var 3 (⟨(decide (v2.2.1 = v2.2.2.2)), ew_or1 (et_cmp o_eq (ex_ixT (i := 1) (nthS nthZ) (ex_var 3 (ex_ixT (i := 3) (nthS (nthS (nthS nthL))) (ex_var 3 (fin wk_refl)))))), fin wk_refl⟩)))))))), ⟨_, _, rfl, gk_one (gs_ret (ex_bl (rfl))), gk_one (gs_ret (ex_andT (ex_cmp o_lt (ex_ixT (i := 0) nthZ (ex_var 2 (ex_ixT (i := 2) (nthS (nthS nthZ)) (ex_var 3 (⟨((decide (v2.1 < v1.2.2.1)) && ((decide (v1.2.1 < v2.2.2.2)) && (decide (v2.2.1 < v1.2.2.2)))), ex_andT (ex_cmp o_lt (ex_ixT (i := 0) nthZ (ex_var 3 (ex_ixT (i := 2) (nthS (nthS nthZ)) (ex_var 2 (⟨((decide (v1.2.1 < v2.2.2.2)) && (decide (v2.2.1 < v1.2.2.2))), ex_andT (ex_cmp o_lt (ex_ixT (i := 1) (nthS nthZ) (ex_var 2 (ex_ixT (i := 3) (nthS (nthS (nthS nthL))) (ex_var 3 (⟨(decide (v2.2.1 < v1.2.2.2)), ex_one (ex_cmp o_lt (ex_ixT (i := 1) (nthS nthZ) (ex_var 3 (ex_ixT (i := 3) (nthS (nthS (nthS nthL))) (ex_var 2 (fin wk_refl)))))), fin wk_refl⟩)))))), fin wk_refl⟩)))))), rfl⟩))))))))⟩⟩⟩)))))))))))⟩)))) S__law_lap.nd)⟩)))) S__law_lap.nd), gk_cons (gs_forF (c := (cTup (tcC cInt (tc1 cInt)))) (fun (s5 : Unit) => [.im (cLst (cTup (tcC cInt (tcC cInt (tcC cInt (tc1 cInt)))))) a_one, .im (cLst (cTup (tcC cInt (tcC cInt (tcC cInt (tc1 cInt)))))) a_two, .no, .no, .no, .no]) rfl (ag_tup rfl (ags_cons (ag_name 4 S__law_lap.nd) (ags_one (ag_name 5 S__law_lap.nd)))) (ei_lst (ex_call F__law_few (hr.mono (by decide)) (ea_one (ex_op2 o_catL (ex_var 0 (ex_var 1 (⟨_, rfl, fun v3 => ⟨_, rfl, fun v4 => ⟨_, _, _, rfl, wk_refl, fun x6 s5 => gk_cons (gs_ifR (et_w (ew_and (fun (c : Bool) => c) (fun _ => [.im (cLst (cTup (tcC cInt (tcC cInt (tcC cInt (tc1 cInt)))))) a_one, .im (cLst (cTup (tcC cInt (tcC cInt (tcC cInt (tc1 cInt)))))) a_two, .no, .no, .im cInt x6.1, .im cInt x6.2]) (et_val (ex_call F__law_point (hr.mono (by decide)) (ea_cons (ex_var 0 (ea_cons (ex_var 4 (ea_one (ex_var 5 (⟨_, rfl, fun v7 => ⟨_, false, _, rfl, rfl, wk_refl, ew_and1 (et_val (ex_call F__law_inner (hr.mono (by decide)) (ea_cons (ex_var 1 (ea_cons (ex_var 4 (ea_one (ex_var 5 (⟨_, rfl, fun v8 => fin wk_refl⟩))))))))), fun c9 => ⟨_, _, rfl, gk_one (gs_ret (ex_bl (rfl))), gk_one (gs_ifR (et_w (ew_and (fun (c : Bool) => c) (fun _ => [.im (cLst (cTup (tcC cInt (tcC cInt (tcC cInt (tc1 cInt)))))) a_one, .im (cLst (cTup (tcC cInt (tcC cInt (tcC cInt (tc1 cInt)))))) a_two, .no, .no, .im cInt x6.1, .im cInt x6.2]) (et_val (ex_call F__law_point (hr.mono (by decide)) (ea_cons (ex_var 1 (ea_cons (ex_var 4 (ea_one (ex_var 5 (⟨_, rfl, fun v10 => ⟨_, false, _, rfl, rfl, wk_refl, ew_and1 (et_val (ex_call F__law_inner (hr.mono (by decide)) (ea_cons (ex_var 0 (ea_cons (ex_var 4 (ea_one (ex_var 5 (⟨_, rfl, fun v11 => fin wk_refl⟩))))))))), fun c12 => ⟨_, _, rfl, gk_one (gs_ret (ex_bl (rfl))), ⟨_, rfl, wk_drops [4, 5]⟩⟩⟩⟩))))))))))))⟩⟩⟩)))))))))))), fun s5 => gk_one (gs_ret (ex_bl (rfl))), fun _ => rfl⟩⟩⟩))))))) .never)⟩⟩))))))))))
def m_law_heading (a_word : Str) : Option (Int × Int) :=
 idxR ([("north" : Str), ("east" : Str), ("south" : Str), ("west" : Str)]) a_word >>= fun v1 =>
 atI ([((0 : Int), (1 : Int)), ((1 : Int), (0 : Int)), ((0 : Int), (-(1 : Int))), ((-(1 : Int)), (0 : Int))]) v1 >>= fun v2 =>
 some v2
abbrev st__law_heading : Stmt := top 31
theorem S__law_heading : FnScope ["word"] ["word"] (defScope st__law_heading) := ⟨rfl, rfl, rfl, by decide +kernel, rfl, by decide +kernel, by decide +kernel⟩
theorem ok__law_heading {fa : Addr} {fd : FuncData} (T : Txt w K mg) (F : FunD K "_law_heading" "_law_heading" (defArgs st__law_heading) (defBody st__law_heading) (defScope st__law_heading) [] [] fa fd) (hm : mg "_law_heading" = some (.ref fa)) : FnP P w K mg base "_law_heading" 1 ["word"] (spP K (tc1 cStr) (fun x => m_law_heading x) (cTup (tcC cInt (tc1 cInt)))) := by
  refine fnp_of hm F (fn_top (fun _ => False) (fun _ h => h.elim) F S__law_heading pen1 (fun x => [.im cStr x]) fun cdv A outer s H E hr C hB a_word => ?_) (fun _ _ _ _ _ _ us hl => match us, hl with | [_], _ => rfl)
  show GK _ C _ _ (m_law_heading a_word) _
  unfold m_law_heading
  exact (gk_one (gs_ret (ex_ixL (ex_froz (ef_lst (el_cons (ex_tup (ea_cons (ex_int (ea_one (ex_int (el_cons (ex_tup (ea_cons (ex_int (ea_one (ex_int (el_cons (ex_tup (ea_cons (ex_int (ea_one (ex_neg (ex_int (el_cons (ex_tup (ea_cons (ex_neg (ex_int (ea_one (ex_int (el_nil (ex_idxL flatS (ex_froz (ef_lst (el_cons (ex_str (el_cons (ex_str (el_cons (ex_str (el_cons (ex_str (el_nil (ex_var 0 (⟨_, rfl, fun v1 => ⟨_, rfl, fun v2 => rfl⟩⟩))))))))))))))))))))))))))))))))))))))))))))))
def m_law_m_go (a_box : (Int × Int × Int × Int)) (a_heading : Str) (a_d : Int) : Option (Int × Int × Int × Int) :=
 m_law_heading a_heading >>= fun v1 =>
 mulR a_d v1.1 >>= fun v2 =>
 mulR a_d v1.2 >>= fun v3 =>
 mulR a_d v1.1 >>= fun v4 =>
 mulR a_d v1.2 >>= fun v5 =>
 some ((a_box.1 + v2), (a_box.2.1 + v3), (a_box.2.2.1 + v4), (a_box.2.2.2 + v5))
abbrev st__law_m_go : Stmt := top 32
theorem S__law_m_go : FnScope ["box", "heading", "d", "x", "y"] ["box", "heading", "d"] (defScope st__law_m_go) := ⟨rfl, rfl, rfl, by decide +kernel, rfl, by decide +kernel, by decide +kernel⟩
theorem ok__law_m_go {fa : Addr} {fd : FuncData} (T : Txt w K mg) (F : FunD K "_law_m_go" "_law_m_go" (defArgs st__law_m_go) (defBody st__law_m_go) (defScope st__law_m_go) [] [] fa fd) (hm : mg "_law_m_go" = some (.ref fa)) (F__law_heading : FnP P w K mg base "_law_heading" (1) ["word"] (spP K (tc1 cStr) (fun x => m_law_heading x) (cTup (tcC cInt (tc1 cInt))))) : FnP P w K mg base "_law_m_go" 2 ["box", "heading", "d"] (spP K (tcC (cTup (tcC cInt (tcC cInt (tcC cInt (tc1 cInt))))) (tcC cStr (tc1 cInt))) (fun x => m_law_m_go x.1 x.2.1 x.2.2) (cTup (tcC cInt (tcC cInt (tcC cInt (tc1 cInt)))))) := by
  refine fnp_of hm F (fn_top (fun _ => False) (fun _ h => h.elim) F S__law_m_go (penC (penC pen1)) (fun x => [.im (cTup (tcC cInt (tcC cInt (tcC cInt (tc1 cInt))))) x.1, .im cStr x.2.1, .im cInt x.2.2, .no, .no]) fun cdv A outer s H E hr C hB x => ?_) (fun _ _ _ _ _ _ us hl => match us, hl with | [_, _, _], _ => rfl)
  obtain ⟨a_box, a_heading, a_d⟩ := x
  show GK _ C _ _ (m_law_m_go a_box a_heading a_d) _
  unfold m_law_m_go
  exact (gk_cons (gs_asg (ag_tup rfl (ags_cons (ag_name 3 S__law_m_go.nd) (ags_one (ag_name 4 S__law_m_go.nd)))) (ex_call F__law_heading (hr.mono (by decide)) (ea_one (ex_var 1 (⟨_, rfl, fun v1 => gk_one (gs_ret (ex_tup (ea_cons (ex_op2T o_add (ex_ixT (i := 0) nthZ (ex_var 0 (ex_op2 o_mul (ex_var 2 (ex_var 3 (⟨_, rfl, fun v2 => ea_cons (ex_op2T o_add (ex_ixT (i := 1) (nthS nthZ) (ex_var 0 (ex_op2 o_mul (ex_var 2 (ex_var 4 (⟨_, rfl, fun v3 => ea_cons (ex_op2T o_add (ex_ixT (i := 2) (nthS (nthS nthZ)) (ex_var 0 (ex_op2 o_mul (ex_var 2 (ex_var 3 (⟨_, rfl, fun v4 => ea_one (ex_op2T o_add (ex_ixT (i := 3) (nthS (nthS (nthS nthL))) (ex_var 0 (ex_op2 o_mul (ex_var 2 (ex_var 4 (⟨_, rfl, fun v5 => rfl⟩)))))))⟩)))))))⟩)))))))⟩))))))))))⟩))))))
def m_law_m_swept (a_box : (Int × Int × Int × Int)) (a_heading : Str) (a_d : Int) : Option (Int × Int × Int × Int) :=
 m_law_m_go a_box a_heading a_d >>= fun v1 =>
 some ((minI a_box.1 v1.1), (minI a_box.2.1 v1.2.1), (maxI a_box.2.2.1 v1.2.2.1), (maxI a_box.2.2.2 v1.2.2.2))
abbrev st__law_m_swept : Stmt := top 33
theorem S__law_m_swept : FnScope ["box", "heading", "d", "gone"] ["box", "heading", "d"] (defScope st__law_m_swept) := ⟨rfl, rfl, rfl, by decide +kernel, rfl, by decide +kernel, by decide +kernel⟩
theorem ok__law_m_swept {fa : Addr} {fd : FuncData} (T : Txt w K mg) (F : FunD K "_law_m_swept" "_law_m_swept" (defArgs st__law_m_swept) (defBody st__law_m_swept) (defScope st__law_m_swept) [] [] fa fd) (hm : mg "_law_m_swept" = some (.ref fa)) (F__law_m_go : FnP P w K mg base "_law_m_go" (2) ["box", "heading", "d"] (spP K (tcC (cTup (tcC cInt (tcC cInt (tcC cInt (tc1 cInt))))) (tcC cStr (tc1 cInt))) (fun x => m_law_m_go x.1 x.2.1 x.2.2) (cTup (tcC cInt (tcC cInt (tcC cInt (tc1 cInt))))))) : FnP P w K mg base "_law_m_swept" 3 ["box", "heading", "d"] (spP K (tcC (cTup (tcC cInt (tcC cInt (tcC cInt (tc1 cInt))))) (tcC cStr (tc1 cInt))) (fun x => m_law_m_swept x.1 x.2.1 x.2.2) (cTup (tcC cInt (tcC cInt (tcC cInt (tc1 cInt)))))) := by
  refine fnp_of hm F (fn_top (fun _ => False) (fun _ h => h.elim) F S__law_m_swept (penC (penC pen1)) (fun x => [.im (cTup (tcC cInt (tcC cInt (tcC cInt (tc1 cInt))))) x.1, .im cStr x.2.1, .im cInt x.2.2, .no]) fun cdv A outer s H E hr C hB x => ?_) (fun _ _ _ _ _ _ us hl => match us, hl with | [_, _, _], _ => rfl)
  obtain ⟨a_box, a_heading, a_d⟩ := x
  show GK _ C _ _ (m_law_m_swept a_box a_heading a_d) _
  unfold m_law_m_swept
  exact (gk_cons (gs_set 3 (ex_call F__law_m_go (hr.mono (by decide)) (ea_cons (ex_var 0 (ea_cons (ex_var 1 (ea_one (ex_var 2 (⟨_, rfl, fun v1 => gk_one (gs_ret (ex_tup (ea_cons (ex_callBT (b_min rfl) T.min_ bt_min (ea_cons (ex_ixT (i := 0) nthZ (ex_var 0 (ea_one (ex_ixT (i := 0) nthZ (ex_var 3 (ea_cons (ex_callBT (b_min rfl) T.min_ bt_min (ea_cons (ex_ixT (i := 1) (nthS nthZ) (ex_var 0 (ea_one (ex_ixT (i := 1) (nthS nthZ) (ex_var 3 (ea_cons (ex_callBT (b_max rfl) T.max_ bt_max (ea_cons (ex_ixT (i := 2) (nthS (nthS nthZ)) (ex_var 0 (ea_one (ex_ixT (i := 2) (nthS (nthS nthZ)) (ex_var 3 (ea_one (ex_callBT (b_max rfl) T.max_ bt_max (ea_cons (ex_ixT (i := 3) (nthS (nthS (nthS nthL))) (ex_var 0 (ea_one (ex_ixT (i := 3) (nthS (nthS (nthS nthL))) (ex_var 3 (rfl)))))))))))))))))))))))))))))))))))⟩)))))))) S__law_m_swept.nd))
def m_law_heads : Option (List Str) :=
 some ([("north" : Str), ("east" : Str), ("south" : Str), ("west" : Str)])
abbrev st__law_heads : Stmt := top 34
theorem S__law_heads : FnScope [] [] (defScope st__law_heads) := ⟨rfl, rfl, rfl, by decide +kernel, rfl, by decide +kernel, by decide +kernel⟩
theorem ok__law_heads {fa : Addr} {fd : FuncData} (T : Txt w K mg) (F : FunD K "_law_heads" "_law_heads" (defArgs st__law_heads) (defBody st__law_heads) (defScope st__law_heads) [] [] fa fd) (hm : mg "_law_heads" = some (.ref fa)) : FnP P w K mg base "_law_heads" 1 [] (spP K tc0 (fun x => m_law_heads) (cLst cStr)) := by
  refine fnp_of hm F (fn_top (fun _ => False) (fun _ h => h.elim) F S__law_heads pen0 (fun x => []) fun cdv A outer s H E hr C hB x => ?_) (fun _ _ _ _ _ _ us hl => match us, hl with | [], _ => rfl)
  show GK _ C _ _ (m_law_heads) _
  unfold m_law_heads
  exact (gk_one (gs_ret (ex_froz (ef_lst (el_cons (ex_str (el_cons (ex_str (el_cons (ex_str (el_cons (ex_str (el_nil (rfl))))))))))))))
def m_law_low_high (tp : Tape) (a_span : Int) : Option ((Int × Int) × Tape) :=
 mulR (2 : Int) a_span >>= fun v1 =>
 m_law_draw tp (v1 + (1 : Int)) >>= fun v2 =>
 lt (v2.1 - a_span) fun low_3 =>
 m_law_draw v2.2 a_span >>= fun v4 =>
 some ((low_3, ((low_3 + (1 : Int)) + v4.1)), v4.2)
abbrev st__law_low_high : Stmt := top 35
theorem S__law_low_high : FnScope ["tape", "span", "low"] ["tape", "span"] (defScope st__law_low_high) := ⟨rfl, rfl, rfl, by decide +kernel, rfl, by decide +kernel, by decide +kernel⟩
theorem ok__law_low_high {fa : Addr} {fd : FuncData} (T : Txt w K mg) (F : FunD K "_law_low_high" "_law_low_high" (defArgs st__law_low_high) (defBody st__law_low_high) (defScope st__law_low_high) [] [] fa fd) (hm : mg "_law_low_high" = some (.ref fa)) (F__law_draw : FnP P w K mg base "_law_draw" (1) ["tape", "many"] (spM K celT (tc1 cInt) (fun tp x => m_law_draw tp x) cInt)) : FnP P w K mg base "_law_low_high" 2 ["tape", "span"] (spM K celT (tc1 cInt) (fun tp x => m_law_low_high tp x) (cTup (tcC cInt (tc1 cInt)))) := by
  refine fnp_of hm F (fn_topL F S__law_low_high pen1 (fun tp x => [.lp, .im cInt x, .no, .ln celT tp]) fun cdv A outer s H E hr C hB tp a_span => ?_) (fun _ _ _ _ _ _ us hl => match us, hl with | [_, _], _ => rfl)
  show GK _ C _ _ (m_law_low_high tp a_span) _
  unfold m_law_low_high
  exact (gk_cons (gs_let 2 (ex_op2T o_sub (ex_callL 0 3 F__law_draw (hr.mono (by decide)) (ea_one (ex_op2T o_add (ex_op2 o_mul (ex_int (ex_var 1 (⟨_, rfl, fun v1 => ex_int (⟨_, rfl, rfl, _, rfl, fun v2 => ex_var 1 (⟨_, rfl, fun low_3 => gk_one (gs_retL 3 (ex_tup (ea_cons (ex_var 2 (ea_one (ex_op2T o_add (ex_op2T o_add (ex_var 2 (ex_int (ex_callL 0 3 F__law_draw (hr.mono (by decide)) (ea_one (ex_var 1 (⟨_, rfl, rfl, _, rfl, fun v4 => by exact ⟨_, rfl, rfl⟩⟩)))))))))))))⟩)⟩)⟩)))))))) S__law_low_high.nd))
def m_law_loose (tp : Tape) (a_span : Int) : Option ((Int × Int × Int × Int) × Tape) :=
 m_law_low_high tp a_span >>= fun v1 =>
 m_law_low_high v1.2 a_span >>= fun v2 =>
 m_law_draw v2.2 (4 : Int) >>= fun v3 =>
 mulR (2 : Int) v1.1.1 >>= fun v4 =>
 mulR (2 : Int) v2.1.1 >>= fun v5 =>
 fdivR v3.1 (2 : Int) >>= fun v6 =>
 atI ([v1.1.1, v1.1.2]) v6 >>= fun v7 =>
 mulR (2 : Int) v7 >>= fun v8 =>
 fmodR v3.1 (2 : Int) >>= fun v9 =>
 atI ([v2.1.1, v2.1.2]) v9 >>= fun v10 =>
 mulR (2 : Int) v10 >>= fun v11 =>
 some ((v4, v5, v8, v11), v3.2)
abbrev st__law_loose : Stmt := top 36
theorem S__law_loose : FnScope ["tape", "span", "x", "y", "kind"] ["tape", "span"] (defScope st__law_loose) := ⟨rfl, rfl, rfl, by decide +kernel, rfl, by decide +kernel, by decide +kernel⟩
theorem ok__law_loose {fa : Addr} {fd : FuncData} (T : Txt w K mg) (F : FunD K "_law_loose" "_law_loose" (defArgs st__law_loose) (defBody st__law_loose) (defScope st__law_loose) [] [] fa fd) (hm : mg "_law_loose" = some (.ref fa)) (F__law_low_high : FnP P w K mg base "_law_low_high" (2) ["tape", "span"] (spM K celT (tc1 cInt) (fun tp x => m_law_low_high tp x) (cTup (tcC cInt (tc1 cInt))))) (F__law_draw : FnP P w K mg base "_law_draw" (1) ["tape", "many"] (spM K celT (tc1 cInt) (fun tp x => m_law_draw tp x) cInt)) : FnP P w K mg base "_law_loose" 3 ["tape", "span"] (spM K celT (tc1 cInt) (fun tp x => m_law_loose tp x) (cTup (tcC cInt (tcC cInt (tcC cInt (tc1 cInt)))))) := by
  refine fnp_of hm F (fn_topL F S__law_loose pen1 (fun tp x => [.lp, .im cInt x, .no, .no, .no, .ln celT tp]) fun cdv A outer s H E hr C hB tp a_span => ?_) (fun _ _ _ _ _ _ us hl => match us, hl with | [_, _], _ => rfl)
  show GK _ C _ _ (m_law_loose tp a_span) _
  unfold m_law_loose
  exact (gk_cons (gs_set 2 (ex_callL 0 5 F__law_low_high (hr.mono (by decide)) (ea_one (ex_var 1 (⟨_, rfl, rfl, _, rfl, fun v1 => gk_cons (gs_set 3 (ex_callL 0 5 F__law_low_high (hr.mono (by decide)) (ea_one (ex_var 1 (⟨_, rfl, rfl, _, rfl, fun v2 => gk_cons (gs_set 4 (ex_callL 0 5 F__law_draw (hr.mono (by decide)) (ea_one (ex_int (⟨_, rfl, rfl, _, rfl, fun v3 => gk_one (gs_retL 5 (ex_tup (ea_cons (ex_op2 o_mul (ex_int (ex_ixT (i := 0) nthZ (ex_var 2 (⟨_, rfl, fun v4 => ea_cons (ex_op2 o_mul (ex_int (ex_ixT (i := 0) nthZ (ex_var 3 (⟨_, rfl, fun v5 => ea_cons (ex_op2 o_mul (ex_int (ex_ixS (ex_tsq (tsqC tsq1) (ex_var 2 (ex_op2 o_fdiv (ex_var 4 (ex_int (⟨_, rfl, fun v6 => ⟨_, rfl, fun v7 => ⟨_, rfl, fun v8 => ea_one (ex_op2 o_mul (ex_int (ex_ixS (ex_tsq (tsqC tsq1) (ex_var 3 (ex_op2 o_mod (ex_callTT b_int T.int_ bt_int (ea_one (ex_var 4 (ex_int (⟨_, rfl, fun v9 => ⟨_, rfl, fun v10 => ⟨_, rfl, fun v11 => by exact ⟨_, rfl, rfl⟩⟩⟩⟩)))))))))))⟩⟩⟩)))))))))⟩)))))⟩))))))))⟩)))) S__law_loose.nd)⟩)))) S__law_loose.nd)⟩)))) S__law_loose.nd))
def m_law_solid (tp : Tape) (a_box : (Int × Int × Int × Int)) (a_swept : (Int × Int × Int × Int)) : Option ((Int × Int × Int × Int) × Tape) :=
 forS ([(0 : Int), (1 : Int)]) (([] : (List (List Int))), tp) (fun x2 (s1 : ((List (List Int)) × Tape)) => atI ([a_box.1, a_box.2.1, a_box.2.2.1, a_box.2.2.2]) x2 >>= fun v3 =>
 atI ([a_box.1, a_box.2.1, a_box.2.2.1, a_box.2.2.2]) (x2 + (2 : Int)) >>= fun v4 =>
 atI ([a_swept.1, a_swept.2.1, a_swept.2.2.1, a_swept.2.2.2]) x2 >>= fun v5 =>
 atI ([a_swept.1, a_swept.2.1, a_swept.2.2.1, a_swept.2.2.2]) (x2 + (2 : Int)) >>= fun v6 =>
 atI ([a_swept.1, a_swept.2.1, a_swept.2.2.1, a_swept.2.2.2]) x2 >>= fun v7 =>
 atI ([a_swept.1, a_swept.2.1, a_swept.2.2.1, a_swept.2.2.2]) (x2 + (2 : Int)) >>= fun v8 =>
 atI ([a_swept.1, a_swept.2.1, a_swept.2.2.1, a_swept.2.2.2]) x2 >>= fun v9 =>
 atI ([a_swept.1, a_swept.2.1, a_swept.2.2.1, a_swept.2.2.2]) (x2 + (2 : Int)) >>= fun v10 =>
 lt ([v3, v4, v5, v6, (v7 - (2 : Int)), (v8 + (2 : Int)), (v9 + (2 : Int)), (v10 - (2 : Int))]) fun menu_11 =>
 atI ([a_box.1, a_box.2.1, a_box.2.2.1, a_box.2.2.2]) x2 >>= fun v12 =>
 atI ([a_box.1, a_box.2.1, a_box.2.2.1, a_box.2.2.2]) (x2 + (2 : Int)) >>= fun v13 =>
 atI ([a_box.1, a_box.2.1, a_box.2.2.1, a_box.2.2.2]) x2 >>= fun v14 =>
 fdivR (v13 - v14) (2 : Int) >>= fun v15 =>
 m_law_draw s1.2 (v15 + (1 : Int)) >>= fun v16 =>
 mulR (2 : Int) v16.1 >>= fun v17 =>
 catR menu_11 ([(v12 + v17)]) >>= fun v18 =>
 m_law_pick v16.2 v18 >>= fun v19 =>
 m_law_pick v19.2 v18 >>= fun v20 =>
 pushR s1.1 (sortI ([v19.1, v20.1])) >>= fun v21 =>
 some (v21.2, v20.2)) >>= fun s1 =>
 (atI s1.1 (0 : Int) >>= fun v23 =>
 atI v23 (0 : Int) >>= fun v24 =>
 atI s1.1 (0 : Int) >>= fun v25 =>
 atI v25 (1 : Int) >>= fun v26 =>
 (cond (decide (v24 = v26)) (atI s1.1 (1 : Int) >>= fun v27 =>
 atI v27 (0 : Int) >>= fun v28 =>
 atI s1.1 (1 : Int) >>= fun v29 =>
 atI v29 (1 : Int) >>= fun v30 =>
 some (decide (v28 = v30))) (some false)) >>= fun c31 =>
 cond c31 (m_law_draw s1.2 (2 : Int) >>= fun v32 =>
 atI s1.1 v32.1 >>= fun v33 =>
 atI v33 (0 : Int) >>= fun v34 =>
 atI s1.1 v32.1 >>= fun v35 =>
 atI v35 (1 : Int) >>= fun v36 =>
 setR s1.1 v32.1 ([v34, (v36 + (2 : Int))]) >>= fun v37 =>
 some (v37, v32.2)) (some (s1.1, s1.2))) >>= fun s22 =>
 atI s22.1 (0 : Int) >>= fun v38 =>
 atI v38 (0 : Int) >>= fun v39 =>
 atI s22.1 (1 : Int) >>= fun v40 =>
 atI v40 (0 : Int) >>= fun v41 =>
 atI s22.1 (0 : Int) >>= fun v42 =>
 atI v42 (1 : Int) >>= fun v43 =>
 atI s22.1 (1 : Int) >>= fun v44 =>
 atI v44 (1 : Int) >>= fun v45 =>
 some ((v39, v41, v43, v45), s22.2)
abbrev st__law_solid : Stmt := top 37
theorem S__law_solid : FnScope ["tape", "box", "swept", "sides", "low", "menu", "k"] ["tape", "box", "swept"] (defScope st__law_solid) := ⟨rfl, rfl, rfl, by decide +kernel, rfl, by decide +kernel, by decide +kernel⟩
theorem ok__law_solid {fa : Addr} {fd : FuncData} (T : Txt w K mg) (F : FunD K "_law_solid" "_law_solid" (defArgs st__law_solid) (defBody st__law_solid) (defScope st__law_solid) [] [] fa fd) (hm : mg "_law_solid" = some (.ref fa)) (F__law_draw : FnP P w K mg base "_law_draw" (1) ["tape", "many"] (spM K celT (tc1 cInt) (fun tp x => m_law_draw tp x) cInt)) (F__law_pick : ∀ {Aa : Type} (ca : Cod K Aa), FnP P w K mg base "_law_pick" (2) ["tape", "menu"] (spM K celT (tc1 (cLst ca)) (fun tp x => m_law_pick tp x) ca)) : FnP P w K mg base "_law_solid" 3 ["tape", "box", "swept"] (spM K celT (tcC (cTup (tcC cInt (tcC cInt (tcC cInt (tc1 cInt))))) (tc1 (cTup (tcC cInt (tcC cInt (tcC cInt (tc1 cInt))))))) (fun tp x => m_law_solid tp x.1 x.2) (cTup (tcC cInt (tcC cInt (tcC cInt (tc1 cInt)))))) := by
  refine fnp_of hm F (fn_topL F S__law_solid (penC pen1) (fun tp x => [.lp, .im (cTup (tcC cInt (tcC cInt (tcC cInt (tc1 cInt))))) x.1, .im (cTup (tcC cInt (tcC cInt (tcC cInt (tc1 cInt))))) x.2, .no, .no, .no, .no, .ln celT tp]) fun cdv A outer s H E hr C hB tp x => ?_) (fun _ _ _ _ _ _ us hl => match us, hl with | [_, _, _], _ => rfl)
  obtain ⟨a_box, a_swept⟩ := x
  show GK _ C _ _ (m_law_solid tp a_box a_swept) _
  unfold m_law_solid
  exact (gk_cons (gs_setN (c := (lstC (cLst cInt))) 3 (ef_lst (el_nil (gk_cons (gs_forS (c := cInt) (fun (s1 : ((List (List Int)) × Tape)) => [.lp, .im (cTup (tcC cInt (tcC cInt (tcC cInt (tc1 cInt))))) a_box, .im (cTup (tcC cInt (tcC cInt (tcC cInt (tc1 cInt))))) a_swept, .ow (lstC (cLst cInt)) s1.1, .no, .no, .no, .ln celT s1.2]) rfl (ag_name 4 S__law_solid.nd) (ei_lst (ex_froz (ef_lst (el_cons (ex_int (el_cons (ex_int (el_nil (⟨_, _, _, rfl, wk_refl, fun x2 s1 => gk_cons (gs_let 5 (ex_froz (ef_lst (el_cons (ex_ixS (ex_tsq (tsqC (tsqC (tsqC tsq1))) (ex_var 1 (ex_var 4 (⟨_, rfl, fun v3 => el_cons (ex_ixS (ex_tsq (tsqC (tsqC (tsqC tsq1))) (ex_var 1 (ex_op2T o_add (ex_var 4 (ex_int (⟨_, rfl, fun v4 => el_cons (ex_ixS (ex_tsq (tsqC (tsqC (tsqC tsq1))) (ex_var 2 (ex_var 4 (⟨_, rfl, fun v5 => el_cons (ex_ixS (ex_tsq (tsqC (tsqC (tsqC tsq1))) (ex_var 2 (ex_op2T o_add (ex_var 4 (ex_int (⟨_, rfl, fun v6 => el_cons (ex_op2T o_sub (ex_ixS (ex_tsq (tsqC (tsqC (tsqC tsq1))) (ex_var 2 (ex_var 4 (⟨_, rfl, fun v7 => ex_int (el_cons (ex_op2T o_add (ex_ixS (ex_tsq (tsqC (tsqC (tsqC tsq1))) (ex_var 2 (ex_op2T o_add (ex_var 4 (ex_int (⟨_, rfl, fun v8 => ex_int (el_cons (ex_op2T o_add (ex_ixS (ex_tsq (tsqC (tsqC (tsqC tsq1))) (ex_var 2 (ex_var 4 (⟨_, rfl, fun v9 => ex_int (el_cons (ex_op2T o_sub (ex_ixS (ex_tsq (tsqC (tsqC (tsqC tsq1))) (ex_var 2 (ex_op2T o_add (ex_var 4 (ex_int (⟨_, rfl, fun v10 => ex_int (el_nil (⟨_, rfl, fun menu_11 => gk_cons (gs_set 5 (ex_op2 o_catL (ex_var 5 (ex_froz (ef_lst (el_cons (ex_op2T o_add (ex_ixS (ex_tsq (tsqC (tsqC (tsqC tsq1))) (ex_var 1 (ex_var 4 (⟨_, rfl, fun v12 => ex_op2 o_mul (ex_int (ex_callL 0 7 F__law_draw (hr.mono (by decide)) (ea_one (ex_op2T o_add (ex_op2 o_fdiv (ex_op2T o_sub (ex_ixS (ex_tsq (tsqC (tsqC (tsqC tsq1))) (ex_var 1 (ex_op2T o_add (ex_var 4 (ex_int (⟨_, rfl, fun v13 => ex_ixS (ex_tsq (tsqC (tsqC (tsqC tsq1))) (ex_var 1 (ex_var 4 (⟨_, rfl, fun v14 => ex_int (⟨_, rfl, fun v15 => ex_int (⟨_, rfl, rfl, _, rfl, fun v16 => ⟨_, rfl, fun v17 => el_nil (⟨_, rfl, fun v18 => gk_one (gs_expr (ex_own 3 m_append PySem.F.slot_list_append PySem.F.type_list_append (ea_one (ex_froz (ef_callBT n_sorted T.sorted_ bt_sorted (ea_one (ex_froz (ef_lst (el_cons (ex_callL 0 7 (F__law_pick cInt) (hr.mono (by decide)) (ea_one (ex_var 5 (⟨_, rfl, rfl, _, rfl, fun v19 => el_cons (ex_callL 0 7 (F__law_pick cInt) (hr.mono (by decide)) (ea_one (ex_var 5 (⟨_, rfl, rfl, _, rfl, fun v20 => el_nil (⟨rfl, _, rfl, fun v21 => ⟨_, rfl, wk_drops [4, 5]⟩⟩)⟩))))⟩)))))))))))))⟩)⟩⟩)⟩)⟩))))⟩)))))))))))))⟩))))))))))) S__law_solid.nd)⟩))⟩)))))))))⟩)))))))⟩)))))))))⟩))))))⟩)))))))⟩)))))⟩)))))))⟩)))))))) S__law_solid.nd), fun s1 => gk_cons (gk_join (fun (s22 : ((List (List Int)) × Tape)) => [.lp, .im (cTup (tcC cInt (tcC cInt (tcC cInt (tc1 cInt))))) a_box, .im (cTup (tcC cInt (tcC cInt (tcC cInt (tc1 cInt))))) a_swept, .ow (lstC (cLst cInt)) s22.1, .no, .no, .no, .ln celT s22.2]) rfl (gs_if2 (et_w (ew_and (fun (c : Bool) => c) (fun _ => [.lp, .im (cTup (tcC cInt (tcC cInt (tcC cInt (tc1 cInt))))) a_box, .im (cTup (tcC cInt (tcC cInt (tcC cInt (tc1 cInt))))) a_swept, .ow (lstC (cLst cInt)) s1.1, .no, .no, .no, .ln celT s1.2]) (et_cmp o_eq (ex_ixL (ex_ixO 3 (ex_int (⟨rfl, _, rfl, fun v23 => ex_int (⟨_, rfl, fun v24 => ex_ixL (ex_ixO 3 (ex_int (⟨rfl, _, rfl, fun v25 => ex_int (⟨_, rfl, fun v26 => ⟨_, false, _, rfl, rfl, wk_refl, ew_and1 (et_cmp o_eq (ex_ixL (ex_ixO 3 (ex_int (⟨rfl, _, rfl, fun v27 => ex_int (⟨_, rfl, fun v28 => ex_ixL (ex_ixO 3 (ex_int (⟨rfl, _, rfl, fun v29 => ex_int (⟨_, rfl, fun v30 => fin wk_refl⟩)⟩)))⟩)⟩))))), fun c31 => ⟨_, _, rfl, gk_cons (gs_set 6 (ex_callL 0 7 F__law_draw (hr.mono (by decide)) (ea_one (ex_int (⟨_, rfl, rfl, _, rfl, fun v32 => gk_one (gs_setI 3 (ex_froz (ef_lst (el_cons (ex_ixL (ex_ixO 3 (ex_var 6 (⟨rfl, _, rfl, fun v33 => ex_int (⟨_, rfl, fun v34 => el_cons (ex_op2T o_add (ex_ixL (ex_ixO 3 (ex_var 6 (⟨rfl, _, rfl, fun v35 => ex_int (⟨_, rfl, fun v36 => ex_int (el_nil (⟨⟨_, rfl⟩, ex_var 6 (⟨_, rfl, _, rfl, fun v37 => ⟨_, rfl, wk_drops [6]⟩⟩)⟩))⟩)⟩)))))⟩)⟩))))))))⟩)))) S__law_solid.nd), gk_nil (⟨_, rfl, wk_refl⟩)⟩⟩⟩)⟩)))⟩)⟩)))))))) (fun s22 => gk_one (gs_retL 7 (ex_tup (ea_cons (ex_ixL (ex_ixO 3 (ex_int (⟨rfl, _, rfl, fun v38 => ex_int (⟨_, rfl, fun v39 => ea_cons (ex_ixL (ex_ixO 3 (ex_int (⟨rfl, _, rfl, fun v40 => ex_int (⟨_, rfl, fun v41 => ea_cons (ex_ixL (ex_ixO 3 (ex_int (⟨rfl, _, rfl, fun v42 => ex_int (⟨_, rfl, fun v43 => ea_one (ex_ixL (ex_ixO 3 (ex_int (⟨rfl, _, rfl, fun v44 => ex_int (⟨_, rfl, fun v45 => by exact ⟨_, rfl, rfl⟩⟩)⟩))))⟩)⟩))))⟩)⟩))))⟩)⟩)))))))))⟩))))))))) .never)))) S__law_solid.nd))
def m_law_near_far (a_box : (Int × Int × Int × Int)) (a_heading : Str) (a_other : (Int × Int × Int × Int)) : Option (Int × Int) :=
 cond (decide (a_heading = ("north" : Str))) (some ((a_other.2.1 - a_box.2.2.2), (a_other.2.2.2 - a_box.2.1))) (cond (decide (a_heading = ("east" : Str))) (some ((a_other.1 - a_box.2.2.1), (a_other.2.2.1 - a_box.1))) (cond (decide (a_heading = ("south" : Str))) (some ((a_box.2.1 - a_other.2.2.2), (a_box.2.2.2 - a_other.2.1))) (some ((a_box.1 - a_other.2.2.1), (a_box.2.2.1 - a_other.1)))))
abbrev st__law_near_far : Stmt := top 38
theorem S__law_near_far : FnScope ["box", "heading", "other"] ["box", "heading", "other"] (defScope st__law_near_far) := ⟨rfl, rfl, rfl, by decide +kernel, rfl, by decide +kernel, by decide +kernel⟩
theorem ok__law_near_far {fa : Addr} {fd : FuncData} (T : Txt w K mg) (F : FunD K "_law_near_far" "_law_near_far" (defArgs st__law_near_far) (defBody st__law_near_far) (defScope st__law_near_far) [] [] fa fd) (hm : mg "_law_near_far" = some (.ref fa)) : FnP P w K mg base "_law_near_far" 1 ["box", "heading", "other"] (spP K (tcC (cTup (tcC cInt (tcC cInt (tcC cInt (tc1 cInt))))) (tcC cStr (tc1 (cTup (tcC cInt (tcC cInt (tcC cInt (tc1 cInt)))))))) (fun x => m_law_near_far x.1 x.2.1 x.2.2) (cTup (tcC cInt (tc1 cInt)))) := by
  refine fnp_of hm F (fn_top (fun _ => False) (fun _ h => h.elim) F S__law_near_far (penC (penC pen1)) (fun x => [.im (cTup (tcC cInt (tcC cInt (tcC cInt (tc1 cInt))))) x.1, .im cStr x.2.1, .im (cTup (tcC cInt (tcC cInt (tcC cInt (tc1 cInt))))) x.2.2]) fun cdv A outer s H E hr C hB x => ?_) (fun _ _ _ _ _ _ us hl => match us, hl with | [_, _, _], _ => rfl)
  obtain ⟨a_box, a_heading, a_other⟩ := x
  show GK _ C _ _ (m_law_near_far a_box a_heading a_other) _
  unfold m_law_near_far
  exact (gk_cons (gs_ifR (et_cmp o_eqS (ex_var 1 (ex_str (⟨_, _, rfl, gk_one (gs_ret (ex_tup (ea_cons (ex_op2T o_sub (ex_ixT (i := 1) (nthS nthZ) (ex_var 2 (ex_ixT (i := 3) (nthS (nthS (nthS nthL))) (ex_var 0 (ea_one (ex_op2T o_sub (ex_ixT (i := 3) (nthS (nthS (nthS nthL))) (ex_var 2 (ex_ixT (i := 1) (nthS nthZ) (ex_var 0 (rfl))))))))))))))), gk_cons (gs_ifR (et_cmp o_eqS (ex_var 1 (ex_str (⟨_, _, rfl, gk_one (gs_ret (ex_tup (ea_cons (ex_op2T o_sub (ex_ixT (i := 0) nthZ (ex_var 2 (ex_ixT (i := 2) (nthS (nthS nthZ)) (ex_var 0 (ea_one (ex_op2T o_sub (ex_ixT (i := 2) (nthS (nthS nthZ)) (ex_var 2 (ex_ixT (i := 0) nthZ (ex_var 0 (rfl))))))))))))))), gk_cons (gs_ifR (et_cmp o_eqS (ex_var 1 (ex_str (⟨_, _, rfl, gk_one (gs_ret (ex_tup (ea_cons (ex_op2T o_sub (ex_ixT (i := 1) (nthS nthZ) (ex_var 0 (ex_ixT (i := 3) (nthS (nthS (nthS nthL))) (ex_var 2 (ea_one (ex_op2T o_sub (ex_ixT (i := 3) (nthS (nthS (nthS nthL))) (ex_var 0 (ex_ixT (i := 1) (nthS nthZ) (ex_var 2 (rfl))))))))))))))), gk_one (gs_ret (ex_tup (ea_cons (ex_op2T o_sub (ex_ixT (i := 0) nthZ (ex_var 0 (ex_ixT (i := 2) (nthS (nthS nthZ)) (ex_var 2 (ea_one (ex_op2T o_sub (ex_ixT (i := 2) (nthS (nthS nthZ)) (ex_var 0 (ex_ixT (i := 0) nthZ (ex_var 2 (rfl)))))))))))))))⟩)))))⟩)))))⟩))))))
def m_law_ask (tp : Tape) : Option ((Int × (Int × Int × Int × Int) × Str × Int × (Int × Int × Int × Int) × (Int × Int × Int × Int)) × Tape) :=
 m_law_pick tp ([(1 : Int), (1 : Int), (2 : Int), (3 : Int), (4 : Int), (12 : Int)]) >>= fun v1 =>
 (m_law_draw v1.2 (8 : Int) >>= fun v3 =>
 cond (decide (v3.1 = (0 : Int))) (m_law_draw v3.2 (999 : Int) >>= fun v4 =>
 lt ((999 : Int) - v4.1) fun unit_5 =>
 some (unit_5, (100000 : Int), v4.2)) (some (v1.1, (12 : Int), v3.2))) >>= fun s2 =>
 m_law_low_high s2.2.2 s2.2.1 >>= fun v6 =>
 m_law_low_high v6.2 s2.2.1 >>= fun v7 =>
 mulR (2 : Int) v6.1.1 >>= fun v8 =>
 mulR (2 : Int) v7.1.1 >>= fun v9 =>
 mulR (2 : Int) v6.1.2 >>= fun v10 =>
 mulR (2 : Int) v7.1.2 >>= fun v11 =>
 lt (v8, v9, v10, v11) fun box_12 =>
 m_law_heads  >>= fun v13 =>
 m_law_pick v7.2 v13 >>= fun v14 =>
 m_law_draw v14.2 (s2.2.1 + (1 : Int)) >>= fun v15 =>
 mulR (2 : Int) v15.1 >>= fun v16 =>
 m_law_m_swept box_12 v14.1 v16 >>= fun v17 =>
 m_law_solid v15.2 box_12 v17 >>= fun v18 =>
 m_law_near_far box_12 v14.1 v18.1 >>= fun v19 =>
 m_law_pick v18.2 ([v16, v16, v16, (0 : Int), v19.1, v19.1, (v19.1 + (2 : Int)), (v19.1 - (2 : Int)), v19.2]) >>= fun v20 =>
 lt (maxI (0 : Int) v20.1) fun d_21 =>
 mulR (2 : Int) s2.1 >>= fun v22 =>
 m_law_loose v20.2 s2.2.1 >>= fun v23 =>
 some ((v22, box_12, v14.1, d_21, v18.1, v23.1), v23.2)
abbrev st__law_ask : Stmt := top 39
theorem S__law_ask : FnScope ["tape", "unit", "span", "x", "y", "box", "heading", "d", "other", "near", "far"] ["tape"] (defScope st__law_ask) := ⟨rfl, rfl, rfl, by decide +kernel, rfl, by decide +kernel, by decide +kernel⟩
theorem ok__law_ask {fa : Addr} {fd : FuncData} (T : Txt w K mg) (F : FunD K "_law_ask" "_law_ask" (defArgs st__law_ask) (defBody st__law_ask) (defScope st__law_ask) [] [] fa fd) (hm : mg "_law_ask" = some (.ref fa)) (F__law_pick : ∀ {Aa : Type} (ca : Cod K Aa), FnP P w K mg base "_law_pick" (2) ["tape", "menu"] (spM K celT (tc1 (cLst ca)) (fun tp x => m_law_pick tp x) ca)) (F__law_draw : FnP P w K mg base "_law_draw" (1) ["tape", "many"] (spM K celT (tc1 cInt) (fun tp x => m_law_draw tp x) cInt)) (F__law_low_high : FnP P w K mg base "_law_low_high" (2) ["tape", "span"] (spM K celT (tc1 cInt) (fun tp x => m_law_low_high tp x) (cTup (tcC cInt (tc1 cInt))))) (F__law_heads : FnP P w K mg base "_law_heads" (1) [] (spP K tc0 (fun x => m_law_heads) (cLst cStr))) (F__law_solid : FnP P w K mg base "_law_solid" (3) ["tape", "box", "swept"] (spM K celT (tcC (cTup (tcC cInt (tcC cInt (tcC cInt (tc1 cInt))))) (tc1 (cTup (tcC cInt (tcC cInt (tcC cInt (tc1 cInt))))))) (fun tp x => m_law_solid tp x.1 x.2) (cTup (tcC cInt (tcC cInt (tcC cInt (tc1 cInt))))))) (F__law_m_swept : FnP P w K mg base "_law_m_swept" (3) ["box", "heading", "d"] (spP K (tcC (cTup (tcC cInt (tcC cInt (tcC cInt (tc1 cInt))))) (tcC cStr (tc1 cInt))) (fun x => m_law_m_swept x.1 x.2.1 x.2.2) (cTup (tcC cInt (tcC cInt (tcC cInt (tc1 cInt))))))) (F__law_near_far : FnP P w K mg base "_law_near_far" (1) ["box", "heading", "other"] (spP K (tcC (cTup (tcC cInt (tcC cInt (tcC cInt (tc1 cInt))))) (tcC cStr (tc1 (cTup (tcC cInt (tcC cInt (tcC cInt (tc1 cInt)))))))) (fun x => m_law_near_far x.1 x.2.1 x.2.2) (cTup (tcC cInt (tc1 cInt))))) (F__law_loose : FnP P w K mg base "_law_loose" (3) ["tape", "span"] (spM K celT (tc1 cInt) (fun tp x => m_law_loose tp x) (cTup (tcC cInt (tcC cInt (tcC cInt (tc1 cInt))))))) : FnP P w K mg base "_law_ask" 4 ["tape"] (spM K celT tc0 (fun tp x => m_law_ask tp) (cTup (tcC cInt (tcC (cTup (tcC cInt (tcC cInt (tcC cInt (tc1 cInt))))) (tcC cStr (tcC cInt (tcC (cTup (tcC cInt (tcC cInt (tcC cInt (tc1 cInt))))) (tc1 (cTup (tcC cInt (tcC cInt (tcC cInt (tc1 cInt))))))))))))) := by
  refine fnp_of hm F (fn_topL F S__law_ask pen0 (fun tp x => [.lp, .no, .no, .no, .no, .no, .no, .no, .no, .no, .no, .ln celT tp]) fun cdv A outer s H E hr C hB tp x => ?_) (fun _ _ _ _ _ _ us hl => match us, hl with | [_], _ => rfl)
  show GK _ C _ _ (m_law_ask tp) _
  unfold m_law_ask
  exact (gk_cons (gs_set 1 (ex_callL 0 11 (F__law_pick cInt) (hr.mono (by decide)) (ea_one (ex_froz (ef_lst (el_cons (ex_int (el_cons (ex_int (el_cons (ex_int (el_cons (ex_int (el_cons (ex_int (el_cons (ex_int (el_nil (⟨_, rfl, rfl, _, rfl, fun v1 => gk_cons (gs_set 2 (ex_int (gk_cons (gk_join (fun (s2 : (Int × Int × Tape)) => [.lp, .im cInt s2.1, .im cInt s2.2.1, .no, .no, .no, .no, .no, .no, .no, .no, .ln celT s2.2.2]) rfl (gs_if2 (et_cmp o_eq (ex_callL 0 11 F__law_draw (hr.mono (by decide)) (ea_one (ex_int (⟨_, rfl, rfl, _, rfl, fun v3 => ex_int (⟨_, _, rfl, gk_cons (gs_let 1 (ex_op2T o_sub (ex_int (ex_callL 0 11 F__law_draw (hr.mono (by decide)) (ea_one (ex_int (⟨_, rfl, rfl, _, rfl, fun v4 => ⟨_, rfl, fun unit_5 => gk_one (gs_set 2 (ex_int (⟨_, rfl, wk_refl⟩)) S__law_ask.nd)⟩⟩)))))) S__law_ask.nd), gk_nil (⟨_, rfl, wk_refl⟩)⟩)⟩)))))) (fun s2 => gk_cons (gs_set 3 (ex_callL 0 11 F__law_low_high (hr.mono (by decide)) (ea_one (ex_var 2 (⟨_, rfl, rfl, _, rfl, fun v6 => gk_cons (gs_set 4 (ex_callL 0 11 F__law_low_high (hr.mono (by decide)) (ea_one (ex_var 2 (⟨_, rfl, rfl, _, rfl, fun v7 => gk_cons (gs_let 5 (ex_tup (ea_cons (ex_op2 o_mul (ex_int (ex_ixT (i := 0) nthZ (ex_var 3 (⟨_, rfl, fun v8 => ea_cons (ex_op2 o_mul (ex_int (ex_ixT (i := 0) nthZ (ex_var 4 (⟨_, rfl, fun v9 => ea_cons (ex_op2 o_mul (ex_int (ex_ixT (i := 1) (nthS nthL) (ex_var 3 (⟨_, rfl, fun v10 => ea_one (ex_op2 o_mul (ex_int (ex_ixT (i := 1) (nthS nthL) (ex_var 4 (⟨_, rfl, fun v11 => ⟨_, rfl, fun box_12 => gk_cons (gs_set 6 (ex_callL 0 11 (F__law_pick cStr) (hr.mono (by decide)) (ea_one (ex_call0 F__law_heads (hr.mono (by decide)) (⟨_, rfl, fun v13 => ⟨_, rfl, rfl, _, rfl, fun v14 => gk_cons (gs_set 7 (ex_op2 o_mul (ex_int (ex_callL 0 11 F__law_draw (hr.mono (by decide)) (ea_one (ex_op2T o_add (ex_var 2 (ex_int (⟨_, rfl, rfl, _, rfl, fun v15 => ⟨_, rfl, fun v16 => gk_cons (gs_set 8 (ex_callL 0 11 F__law_solid (hr.mono (by decide)) (ea_cons (ex_var 5 (ea_one (ex_call F__law_m_swept (hr.mono (by decide)) (ea_cons (ex_var 5 (ea_cons (ex_var 6 (ea_one (ex_var 7 (⟨_, rfl, fun v17 => ⟨_, rfl, rfl, _, rfl, fun v18 => gk_cons (gs_asg (ag_tup rfl (ags_cons (ag_name 9 S__law_ask.nd) (ags_one (ag_name 10 S__law_ask.nd)))) (ex_call F__law_near_far (hr.mono (by decide)) (ea_cons (ex_var 5 (ea_cons (ex_var 6 (ea_one (ex_var 8 (⟨_, rfl, fun v19 => gk_cons (gs_let 7 (ex_callBT (b_max rfl) T.max_ bt_max (ea_cons (ex_int (ea_one (ex_callL 0 11 (F__law_pick cInt) (hr.mono (by decide)) (ea_one (ex_froz (ef_lst (el_cons (ex_var 7 (el_cons (ex_var 7 (el_cons (ex_var 7 (el_cons (ex_int (el_cons (ex_var 9 (el_cons (ex_var 9 (el_cons (ex_op2T o_add (ex_var 9 (ex_int (el_cons (ex_op2T o_sub (ex_var 9 (ex_int (el_cons (ex_var 10 (el_nil (⟨_, rfl, rfl, _, rfl, fun v20 => ⟨_, rfl, fun d_21 => gk_one (gs_retL 11 (ex_tup (ea_cons (ex_op2 o_mul (ex_int (ex_var 1 (⟨_, rfl, fun v22 => ea_cons (ex_var 5 (ea_cons (ex_var 6 (ea_cons (ex_var 7 (ea_cons (ex_var 8 (ea_one (ex_callL 0 11 F__law_loose (hr.mono (by decide)) (ea_one (ex_var 2 (⟨_, rfl, rfl, _, rfl, fun v23 => by exact ⟨_, rfl, rfl⟩⟩))))))))))))⟩)))))))⟩⟩)))))))))))))))))))))))))))))))) S__law_ask.nd)⟩)))))))))⟩⟩)))))))))))) S__law_ask.nd)⟩⟩)))))))) S__law_ask.nd)⟩⟩)))) S__law_ask.nd)⟩⟩)))))⟩)))))⟩)))))⟩))))))) S__law_ask.nd)⟩)))) S__law_ask.nd)⟩)))) S__law_ask.nd))))) S__law_ask.nd)⟩)))))))))))))))))) S__law_ask.nd))
def m_law_changed (tp : Tape) (a_ask : (Int × (Int × Int × Int × Int) × Str × Int × (Int × Int × Int × Int) × (Int × Int × Int × Int))) : Option ((Int × (Int × Int × Int × Int) × Str × Int × (Int × Int × Int × Int) × (Int × Int × Int × Int)) × Tape) :=
 m_law_draw tp (4 : Int) >>= fun v1 =>
 cond (decide (v1.1 = (0 : Int))) (m_law_heads  >>= fun v2 =>
 idxR v2 a_ask.2.2.1 >>= fun v3 =>
 (dSeq some) ((uTup (uRC uInt (uRC (uTup (uRC uInt (uRC uInt (uRC uInt (uR1 uInt))))) (uRC uStr (uRC uInt (uRC (uTup (uRC uInt (uRC uInt (uRC uInt (uR1 uInt))))) (uR1 (uTup (uRC uInt (uRC uInt (uRC uInt (uR1 uInt)))))))))))) a_ask) >>= fun v4 =>
 m_law_heads  >>= fun v5 =>
 m_law_draw v1.2 (3 : Int) >>= fun v6 =>
 fmodR ((v3 + (1 : Int)) + v6.1) (4 : Int) >>= fun v7 =>
 atI v5 v7 >>= fun v8 =>
 m_law_put v4 (2 : Int) (uStr v8) >>= fun v9 =>
 (dTup (dRC dInt (dRC (dTup (dRC dInt (dRC dInt (dRC dInt (dR1 dInt))))) (dRC dStr (dRC dInt (dRC (dTup (dRC dInt (dRC dInt (dRC dInt (dR1 dInt))))) (dR1 (dTup (dRC dInt (dRC dInt (dRC dInt (dR1 dInt)))))))))))) ((uSeq id) v9) >>= fun v10 =>
 some (v10, v6.2)) (cond (decide (v1.1 = (1 : Int))) ((dSeq some) ((uTup (uRC uInt (uRC (uTup (uRC uInt (uRC uInt (uRC uInt (uR1 uInt))))) (uRC uStr (uRC uInt (uRC (uTup (uRC uInt (uRC uInt (uRC uInt (uR1 uInt))))) (uR1 (uTup (uRC uInt (uRC uInt (uRC uInt (uR1 uInt)))))))))))) a_ask) >>= fun v11 =>
 m_law_draw v1.2 (12 : Int) >>= fun v12 =>
 mulR (2 : Int) v12.1 >>= fun v13 =>
 m_law_pick v12.2 ([(2 : Int), ((0 : Int) - (2 : Int)), v13]) >>= fun v14 =>
 m_law_put v11 (3 : Int) (uInt (maxI (0 : Int) (a_ask.2.2.2.1 + v14.1))) >>= fun v15 =>
 (dTup (dRC dInt (dRC (dTup (dRC dInt (dRC dInt (dRC dInt (dR1 dInt))))) (dRC dStr (dRC dInt (dRC (dTup (dRC dInt (dRC dInt (dRC dInt (dR1 dInt))))) (dR1 (dTup (dRC dInt (dRC dInt (dRC dInt (dR1 dInt)))))))))))) ((uSeq id) v15) >>= fun v16 =>
 some (v16, v14.2)) (cond (decide (v1.1 = (2 : Int))) ((dSeq some) ((uTup (uRC uInt (uRC (uTup (uRC uInt (uRC uInt (uRC uInt (uR1 uInt))))) (uRC uStr (uRC uInt (uRC (uTup (uRC uInt (uRC uInt (uRC uInt (uR1 uInt))))) (uR1 (uTup (uRC uInt (uRC uInt (uRC uInt (uR1 uInt)))))))))))) a_ask) >>= fun v17 =>
 m_law_m_swept a_ask.2.1 a_ask.2.2.1 a_ask.2.2.2.1 >>= fun v18 =>
 m_law_solid v1.2 a_ask.2.1 v18 >>= fun v19 =>
 m_law_put v17 (4 : Int) ((uTup (uRC uInt (uRC uInt (uRC uInt (uR1 uInt))))) v19.1) >>= fun v20 =>
 (dTup (dRC dInt (dRC (dTup (dRC dInt (dRC dInt (dRC dInt (dR1 dInt))))) (dRC dStr (dRC dInt (dRC (dTup (dRC dInt (dRC dInt (dRC dInt (dR1 dInt))))) (dR1 (dTup (dRC dInt (dRC dInt (dRC dInt (dR1 dInt)))))))))))) ((uSeq id) v20) >>= fun v21 =>
 some (v21, v19.2)) ((dSeq some) ((uTup (uRC uInt (uRC (uTup (uRC uInt (uRC uInt (uRC uInt (uR1 uInt))))) (uRC uStr (uRC uInt (uRC (uTup (uRC uInt (uRC uInt (uRC uInt (uR1 uInt))))) (uR1 (uTup (uRC uInt (uRC uInt (uRC uInt (uR1 uInt)))))))))))) a_ask) >>= fun v22 =>
 m_law_m_go a_ask.2.1 ("north" : Str) (2 : Int) >>= fun v23 =>
 m_law_m_go a_ask.2.1 ("west" : Str) (2 : Int) >>= fun v24 =>
 m_law_pick v1.2 ([v23, v24, (a_ask.2.1.1, a_ask.2.1.2.1, (a_ask.2.1.2.2.1 + (2 : Int)), a_ask.2.1.2.2.2)]) >>= fun v25 =>
 m_law_put v22 (1 : Int) ((uTup (uRC uInt (uRC uInt (uRC uInt (uR1 uInt))))) v25.1) >>= fun v26 =>
 (dTup (dRC dInt (dRC (dTup (dRC dInt (dRC dInt (dRC dInt (dR1 dInt))))) (dRC dStr (dRC dInt (dRC (dTup (dRC dInt (dRC dInt (dRC dInt (dR1 dInt))))) (dR1 (dTup (dRC dInt (dRC dInt (dRC dInt (dR1 dInt)))))))))))) ((uSeq id) v26) >>= fun v27 =>
 some (v27, v25.2))))
abbrev st__law_changed : Stmt := top 40
theorem S__law_changed : FnScope ["tape", "ask", "kind", "at", "box"] ["tape", "ask"] (defScope st__law_changed) := ⟨rfl, rfl, rfl, by decide +kernel, rfl, by decide +kernel, by decide +kernel⟩
theorem ok__law_changed {fa : Addr} {fd : FuncData} (T : Txt w K mg) (F : FunD K "_law_changed" "_law_changed" (defArgs st__law_changed) (defBody st__law_changed) (defScope st__law_changed) [] [] fa fd) (hm : mg "_law_changed" = some (.ref fa)) (F__law_draw : FnP P w K mg base "_law_draw" (1) ["tape", "many"] (spM K celT (tc1 cInt) (fun tp x => m_law_draw tp x) cInt)) (F__law_heads : FnP P w K mg base "_law_heads" (1) [] (spP K tc0 (fun x => m_law_heads) (cLst cStr))) (F__law_put : FnP P w K mg base "_law_put" (1) ["told", "place", "thing"] (spP K (tcC (cSeq cU) (tcC cInt (tc1 cU))) (fun x => m_law_put x.1 x.2.1 x.2.2) (cSeq cU))) (F__law_pick : ∀ {Aa : Type} (ca : Cod K Aa), FnP P w K mg base "_law_pick" (2) ["tape", "menu"] (spM K celT (tc1 (cLst ca)) (fun tp x => m_law_pick tp x) ca)) (F__law_solid : FnP P w K mg base "_law_solid" (3) ["tape", "box", "swept"] (spM K celT (tcC (cTup (tcC cInt (tcC cInt (tcC cInt (tc1 cInt))))) (tc1 (cTup (tcC cInt (tcC cInt (tcC cInt (tc1 cInt))))))) (fun tp x => m_law_solid tp x.1 x.2) (cTup (tcC cInt (tcC cInt (tcC cInt (tc1 cInt))))))) (F__law_m_swept : FnP P w K mg base "_law_m_swept" (3) ["box", "heading", "d"] (spP K (tcC (cTup (tcC cInt (tcC cInt (tcC cInt (tc1 cInt))))) (tcC cStr (tc1 cInt))) (fun x => m_law_m_swept x.1 x.2.1 x.2.2) (cTup (tcC cInt (tcC cInt (tcC cInt (tc1 cInt))))))) (F__law_m_go : FnP P w K mg base "_law_m_go" (2) ["box", "heading", "d"] (spP K (tcC (cTup (tcC cInt (tcC cInt (tcC cInt (tc1 cInt))))) (tcC cStr (tc1 cInt))) (fun x => m_law_m_go x.1 x.2.1 x.2.2) (cTup (tcC cInt (tcC cInt (tcC cInt (tc1 cInt))))))) : FnP P w K mg base "_law_changed" 4 ["tape", "ask"] (spM K celT (tc1 (cTup (tcC cInt (tcC (cTup (tcC cInt (tcC cInt (tcC cInt (tc1 cInt))))) (tcC cStr (tcC cInt (tcC (cTup (tcC cInt (tcC cInt (tcC cInt (tc1 cInt))))) (tc1 (cTup (tcC cInt (tcC cInt (tcC cInt (tc1 cInt))))))))))))) (fun tp x => m_law_changed tp x) (cTup (tcC cInt (tcC (cTup (tcC cInt (tcC cInt (tcC cInt (tc1 cInt))))) (tcC cStr (tcC cInt (tcC (cTup (tcC cInt (tcC cInt (tcC cInt (tc1 cInt))))) (tc1 (cTup (tcC cInt (tcC cInt (tcC cInt (tc1 cInt))))))))))))) := by
  refine fnp_of hm F (fn_topL F S__law_changed pen1 (fun tp x => [.lp, .im (cTup (tcC cInt (tcC (cTup (tcC cInt (tcC cInt (tcC cInt (tc1 cInt))))) (tcC cStr (tcC cInt (tcC (cTup (tcC cInt (tcC cInt (tcC cInt (tc1 cInt))))) (tc1 (cTup (tcC cInt (tcC cInt (tcC cInt (tc1 cInt)))))))))))) x, .no, .no, .no, .ln celT tp]) fun cdv A outer s H E hr C hB tp a_ask => ?_) (fun _ _ _ _ _ _ us hl => match us, hl with | [_, _], _ => rfl)
  show GK _ C _ _ (m_law_changed tp a_ask) _
  unfold m_law_changed
  exact (gk_cons (gs_set 2 (ex_callL 0 5 F__law_draw (hr.mono (by decide)) (ea_one (ex_int (⟨_, rfl, rfl, _, rfl, fun v1 => gk_cons (gs_ifR (et_cmp o_eq (ex_var 2 (ex_int (⟨_, _, rfl, gk_cons (gs_set 3 (ex_idxL flatS (ex_call0 F__law_heads (hr.mono (by decide)) (⟨_, rfl, fun v2 => ex_ixT (i := 2) (nthS (nthS nthZ)) (ex_var 1 (⟨_, rfl, fun v3 => gk_one (gs_retL 5 (ex_cast (decT (decRC decI (decRC (decT (decRC decI (decRC decI (decRC decI (decR1 decI))))) (decRC decS (decRC decI (decRC (decT (decRC decI (decRC decI (decRC decI (decR1 decI))))) (decR1 (decT (decRC decI (decRC decI (decRC decI (decR1 decI)))))))))))) (ex_call F__law_put (hr.mono (by decide)) (ea_cons (ex_cast (decQ decU) (ex_var 1 (⟨_, rfl, fun v4 => ea_cons (ex_int (ea_one (ex_u (ex_ixL (ex_call0 F__law_heads (hr.mono (by decide)) (⟨_, rfl, fun v5 => ex_op2 o_mod (ex_callTT b_int T.int_ bt_int (ea_one (ex_op2T o_add (ex_op2T o_add (ex_var 3 (ex_int (ex_callL 0 5 F__law_draw (hr.mono (by decide)) (ea_one (ex_int (⟨_, rfl, rfl, _, rfl, fun v6 => ex_int (⟨_, rfl, fun v7 => ⟨_, rfl, fun v8 => ⟨_, rfl, fun v9 => ⟨_, rfl, fun v10 => by exact ⟨_, rfl, rfl⟩⟩⟩⟩⟩)⟩))))))))))⟩))))))⟩)))))))⟩))⟩))) S__law_changed.nd), gk_cons (gs_ifR (et_cmp o_eq (ex_var 2 (ex_int (⟨_, _, rfl, gk_one (gs_retL 5 (ex_cast (decT (decRC decI (decRC (decT (decRC decI (decRC decI (decRC decI (decR1 decI))))) (decRC decS (decRC decI (decRC (decT (decRC decI (decRC decI (decRC decI (decR1 decI))))) (decR1 (decT (decRC decI (decRC decI (decRC decI (decR1 decI)))))))))))) (ex_call F__law_put (hr.mono (by decide)) (ea_cons (ex_cast (decQ decU) (ex_var 1 (⟨_, rfl, fun v11 => ea_cons (ex_int (ea_one (ex_u (ex_callBT (b_max rfl) T.max_ bt_max (ea_cons (ex_int (ea_one (ex_op2T o_add (ex_ixT (i := 3) (nthS (nthS (nthS nthZ))) (ex_var 1 (ex_callL 0 5 (F__law_pick cInt) (hr.mono (by decide)) (ea_one (ex_froz (ef_lst (el_cons (ex_int (el_cons (ex_op2T o_sub (ex_int (ex_int (el_cons (ex_op2 o_mul (ex_int (ex_callL 0 5 F__law_draw (hr.mono (by decide)) (ea_one (ex_int (⟨_, rfl, rfl, _, rfl, fun v12 => ⟨_, rfl, fun v13 => el_nil (⟨_, rfl, rfl, _, rfl, fun v14 => ⟨_, rfl, fun v15 => ⟨_, rfl, fun v16 => by exact ⟨_, rfl, rfl⟩⟩⟩⟩)⟩⟩)))))))))))))))))))))))))))⟩))))))), gk_cons (gs_ifR (et_cmp o_eq (ex_var 2 (ex_int (⟨_, _, rfl, gk_one (gs_retL 5 (ex_cast (decT (decRC decI (decRC (decT (decRC decI (decRC decI (decRC decI (decR1 decI))))) (decRC decS (decRC decI (decRC (decT (decRC decI (decRC decI (decRC decI (decR1 decI))))) (decR1 (decT (decRC decI (decRC decI (decRC decI (decR1 decI)))))))))))) (ex_call F__law_put (hr.mono (by decide)) (ea_cons (ex_cast (decQ decU) (ex_var 1 (⟨_, rfl, fun v17 => ea_cons (ex_int (ea_one (ex_u (ex_callL 0 5 F__law_solid (hr.mono (by decide)) (ea_cons (ex_ixT (i := 1) (nthS nthZ) (ex_var 1 (ea_one (ex_call F__law_m_swept (hr.mono (by decide)) (ea_cons (ex_ixT (i := 1) (nthS nthZ) (ex_var 1 (ea_cons (ex_ixT (i := 2) (nthS (nthS nthZ)) (ex_var 1 (ea_one (ex_ixT (i := 3) (nthS (nthS (nthS nthZ))) (ex_var 1 (⟨_, rfl, fun v18 => ⟨_, rfl, rfl, _, rfl, fun v19 => ⟨_, rfl, fun v20 => ⟨_, rfl, fun v21 => by exact ⟨_, rfl, rfl⟩⟩⟩⟩⟩)))))))))))))))))))⟩))))))), gk_cons (gs_set 4 (ex_ixT (i := 1) (nthS nthZ) (ex_var 1 (gk_one (gs_retL 5 (ex_cast (decT (decRC decI (decRC (decT (decRC decI (decRC decI (decRC decI (decR1 decI))))) (decRC decS (decRC decI (decRC (decT (decRC decI (decRC decI (decRC decI (decR1 decI))))) (decR1 (decT (decRC decI (decRC decI (decRC decI (decR1 decI)))))))))))) (ex_call F__law_put (hr.mono (by decide)) (ea_cons (ex_cast (decQ decU) (ex_var 1 (⟨_, rfl, fun v22 => ea_cons (ex_int (ea_one (ex_u (ex_callL 0 5 (F__law_pick (cTup (tcC cInt (tcC cInt (tcC cInt (tc1 cInt)))))) (hr.mono (by decide)) (ea_one (ex_froz (ef_lst (el_cons (ex_call F__law_m_go (hr.mono (by decide)) (ea_cons (ex_var 4 (ea_cons (ex_str (ea_one (ex_int (⟨_, rfl, fun v23 => el_cons (ex_call F__law_m_go (hr.mono (by decide)) (ea_cons (ex_var 4 (ea_cons (ex_str (ea_one (ex_int (⟨_, rfl, fun v24 => el_cons (ex_tup (ea_cons (ex_ixT (i := 0) nthZ (ex_var 4 (ea_cons (ex_ixT (i := 1) (nthS nthZ) (ex_var 4 (ea_cons (ex_op2T o_add (ex_ixT (i := 2) (nthS (nthS nthZ)) (ex_var 4 (ex_int (ea_one (ex_ixT (i := 3) (nthS (nthS (nthS nthL))) (ex_var 4 (el_nil (⟨_, rfl, rfl, _, rfl, fun v25 => ⟨_, rfl, fun v26 => ⟨_, rfl, fun v27 => by exact ⟨_, rfl, rfl⟩⟩⟩⟩)))))))))))))))))⟩))))))))⟩))))))))))))))))⟩)))))))))) S__law_changed.nd)⟩)))))⟩)))))⟩)))))⟩)))) S__law_changed.nd))
def m_law_clear (a_box : (Int × Int × Int × Int)) (a_heading : Str) (a_d : Int) (a_other : (Int × Int × Int × Int)) : Option Bool :=
 m_law_near_far a_box a_heading a_other >>= fun v1 =>
 fdivR ((maxI (0 : Int) v1.1) + (minI a_d v1.2)) (2 : Int) >>= fun v2 =>
 (forF ([(0 : Int), a_d, v2]) () (fun x4 (s3 : Unit) => (cond (decide ((0 : Int) ≤ x4)) ((cond (decide (x4 ≤ a_d)) (m_law_m_go a_box a_heading x4 >>= fun v5 =>
 m_law_lap ([v5]) ([a_other]) >>= fun v6 =>
 some v6) (some false)) >>= fun c7 =>
 some c7) (some false)) >>= fun c8 =>
 cond c8 (some (.rt false)) (some (.nx ()))) : Option (Fl Unit Bool)) >>= (fun o => match o with
 | .nx s3 => some true
 | .rt x => some x
 | .bk _ => none
 | .ct _ => none)
abbrev st__law_clear : Stmt := top 41
theorem S__law_clear : FnScope ["box", "heading", "d", "other", "near", "far", "t"] ["box", "heading", "d", "other"] (defScope st__law_clear) := ⟨rfl, rfl, rfl, by decide +kernel, rfl, by decide +kernel, by decide +kernel⟩
theorem ok__law_clear {fa : Addr} {fd : FuncData} (T : Txt w K mg) (F : FunD K "_law_clear" "_law_clear" (defArgs st__law_clear) (defBody st__law_clear) (defScope st__law_clear) [] [] fa fd) (hm : mg "_law_clear" = some (.ref fa)) (F__law_near_far : FnP P w K mg base "_law_near_far" (1) ["box", "heading", "other"] (spP K (tcC (cTup (tcC cInt (tcC cInt (tcC cInt (tc1 cInt))))) (tcC cStr (tc1 (cTup (tcC cInt (tcC cInt (tcC cInt (tc1 cInt)))))))) (fun x => m_law_near_far x.1 x.2.1 x.2.2) (cTup (tcC cInt (tc1 cInt))))) (F__law_lap : FnP P w K mg base "_law_lap" (3) ["one", "two"] (spP K (tcC (cLst (cTup (tcC cInt (tcC cInt (tcC cInt (tc1 cInt)))))) (tc1 (cLst (cTup (tcC cInt (tcC cInt (tcC cInt (tc1 cInt)))))))) (fun x => m_law_lap x.1 x.2) cBool)) (F__law_m_go : FnP P w K mg base "_law_m_go" (2) ["box", "heading", "d"] (spP K (tcC (cTup (tcC cInt (tcC cInt (tcC cInt (tc1 cInt))))) (tcC cStr (tc1 cInt))) (fun x => m_law_m_go x.1 x.2.1 x.2.2) (cTup (tcC cInt (tcC cInt (tcC cInt (tc1 cInt))))))) : FnP P w K mg base "_law_clear" 4 ["box", "heading", "d", "other"] (spP K (tcC (cTup (tcC cInt (tcC cInt (tcC cInt (tc1 cInt))))) (tcC cStr (tcC cInt (tc1 (cTup (tcC cInt (tcC cInt (tcC cInt (tc1 cInt))))))))) (fun x => m_law_clear x.1 x.2.1 x.2.2.1 x.2.2.2) cBool) := by
  refine fnp_of hm F (fn_top (fun _ => False) (fun _ h => h.elim) F S__law_clear (penC (penC (penC pen1))) (fun x => [.im (cTup (tcC cInt (tcC cInt (tcC cInt (tc1 cInt))))) x.1, .im cStr x.2.1, .im cInt x.2.2.1, .im (cTup (tcC cInt (tcC cInt (tcC cInt (tc1 cInt))))) x.2.2.2, .no, .no, .no]) fun cdv A outer s H E hr C hB x => ?_) (fun _ _ _ _ _ _ us hl => match us, hl with | [_, _, _, _], _ => rfl)
  obtain ⟨a_box, a_heading, a_d, a_other⟩ := x
  show GK _ C _ _ (m_law_clear a_box a_heading a_d a_other) _
  unfold m_law_clear
  exact (gk_cons (gs_asg (ag_tup rfl (ags_cons (ag_name 4 S__law_clear.nd) (ags_one (ag_name 5 S__law_clear.nd)))) (ex_call F__law_near_far (hr.mono (by decide)) (ea_cons (ex_var 0 (ea_cons (ex_var 1 (ea_one (ex_var 3 (⟨_, rfl, fun v1 => gk_cons (gs_forF (c := cInt) (fun (s3 : Unit) => [.im (cTup (tcC cInt (tcC cInt (tcC cInt (tc1 cInt))))) a_box, .im cStr a_heading, .im cInt a_d, .im (cTup (tcC cInt (tcC cInt (tcC cInt (tc1 cInt))))) a_other, .im cInt v1.1, .im cInt v1.2, .no]) rfl (ag_name 6 S__law_clear.nd) (ei_lst (ex_froz (ef_lst (el_cons (ex_int (el_cons (ex_var 2 (el_cons (ex_op2 o_fdiv (ex_op2T o_add (ex_callBT (b_max rfl) T.max_ bt_max (ea_cons (ex_int (ea_one (ex_var 4 (ex_callBT (b_min rfl) T.min_ bt_min (ea_cons (ex_var 2 (ea_one (ex_var 5 (ex_int (⟨_, rfl, fun v2 => el_nil (⟨_, _, _, rfl, wk_refl, fun x4 s3 => gk_one (gs_ifR (et_w (ew_and (fun (c : Bool) => c) (fun _ => [.im (cTup (tcC cInt (tcC cInt (tcC cInt (tc1 cInt))))) a_box, .im cStr a_heading, .im cInt a_d, .im (cTup (tcC cInt (tcC cInt (tcC cInt (tc1 cInt))))) a_other, .im cInt v1.1, .im cInt v1.2, .im cInt x4]) (et_cmp o_ge (ex_var 6 (ex_int (⟨_, false, _, rfl, rfl, wk_refl, ew_and (fun (c : Bool) => c) (fun _ => [.im (cTup (tcC cInt (tcC cInt (tcC cInt (tc1 cInt))))) a_box, .im cStr a_heading, .im cInt a_d, .im (cTup (tcC cInt (tcC cInt (tcC cInt (tc1 cInt))))) a_other, .im cInt v1.1, .im cInt v1.2, .im cInt x4]) (et_cmp o_le (ex_var 6 (ex_var 2 (⟨_, false, _, rfl, rfl, wk_refl, ew_and1 (et_val (ex_call F__law_lap (hr.mono (by decide)) (ea_cons (ex_froz (ef_lst (el_cons (ex_call F__law_m_go (hr.mono (by decide)) (ea_cons (ex_var 0 (ea_cons (ex_var 1 (ea_one (ex_var 6 (⟨_, rfl, fun v5 => el_nil (ea_one (ex_froz (ef_lst (el_cons (ex_var 3 (el_nil (⟨_, rfl, fun v6 => fin wk_refl⟩)))))))⟩)))))))))))))), fun c7 => fin wk_refl⟩)))), fun c8 => ⟨_, _, rfl, gk_one (gs_ret (ex_bl (rfl))), ⟨_, rfl, wk_drops [6]⟩⟩⟩))))))), fun s3 => gk_one (gs_ret (ex_bl (rfl))), fun _ => rfl⟩)⟩)))))))))))))))))))))) .never)⟩))))))))))
def m_law_right (a_ask : (Int × (Int × Int × Int × Int) × Str × Int × (Int × Int × Int × Int) × (Int × Int × Int × Int))) (a_door : Int) : Option Bool :=
 m_law_low a_ask.2.2.2.1 a_ask.1 >>= fun v1 =>
 cond (decide (a_door = (0 : Int))) (m_law_given a_ask.2.1 a_ask.1 >>= fun v2 =>
 (dTup (dRC (dTup (dRC dInt (dR1 dInt))) (dRC (dTup (dRC dInt (dR1 dInt))) (dRC (dTup (dRC dInt (dR1 dInt))) (dR1 (dTup (dRC dInt (dR1 dInt)))))))) ((uSeq (uTup (uRC uInt (uR1 uInt)))) v2) >>= fun v3 =>
 m_law_given a_ask.2.2.2.2.1 a_ask.1 >>= fun v4 =>
 (dTup (dRC (dTup (dRC dInt (dR1 dInt))) (dRC (dTup (dRC dInt (dR1 dInt))) (dRC (dTup (dRC dInt (dR1 dInt))) (dR1 (dTup (dRC dInt (dR1 dInt)))))))) ((uSeq (uTup (uRC uInt (uR1 uInt)))) v4) >>= fun v5 =>
 m_passes_clear v3 a_ask.2.2.1 v1 v5 >>= fun v6 =>
 m_law_clear a_ask.2.1 a_ask.2.2.1 a_ask.2.2.2.1 a_ask.2.2.2.2.1 >>= fun v7 =>
 m_law_same 6 (uBool v6) (uBool v7) >>= fun v8 =>
 some v8) ((forF ([a_ask.2.2.2.2.2, a_ask.2.1]) () (fun x10 (s9 : Unit) => m_law_given x10 a_ask.1 >>= fun v11 =>
 (cond (decide (a_door = (1 : Int))) ((dTup (dRC (dTup (dRC dInt (dR1 dInt))) (dRC (dTup (dRC dInt (dR1 dInt))) (dRC (dTup (dRC dInt (dR1 dInt))) (dR1 (dTup (dRC dInt (dR1 dInt)))))))) ((uSeq (uTup (uRC uInt (uR1 uInt)))) v11) >>= fun v12 =>
 m_go_box v12 a_ask.2.2.1 v1 >>= fun v13 =>
 m_law_m_go x10 a_ask.2.2.1 a_ask.2.2.2.1 >>= fun v14 =>
 m_law_given v14 a_ask.1 >>= fun v15 =>
 m_law_same 6 ((uTup (uRC (uTup (uRC uInt (uR1 uInt))) (uRC (uTup (uRC uInt (uR1 uInt))) (uRC (uTup (uRC uInt (uR1 uInt))) (uR1 (uTup (uRC uInt (uR1 uInt)))))))) v13) ((uSeq (uTup (uRC uInt (uR1 uInt)))) v15) >>= fun v16 =>
 some (!v16)) (some false)) >>= fun c17 =>
 cond c17 (some (.rt false)) ((cond (decide (a_door = (2 : Int))) ((dTup (dRC (dTup (dRC dInt (dR1 dInt))) (dRC (dTup (dRC dInt (dR1 dInt))) (dRC (dTup (dRC dInt (dR1 dInt))) (dR1 (dTup (dRC dInt (dR1 dInt)))))))) ((uSeq (uTup (uRC uInt (uR1 uInt)))) v11) >>= fun v18 =>
 m_swept_box v18 a_ask.2.2.1 v1 >>= fun v19 =>
 m_law_m_swept x10 a_ask.2.2.1 a_ask.2.2.2.1 >>= fun v20 =>
 m_law_given v20 a_ask.1 >>= fun v21 =>
 m_law_same 6 ((uTup (uRC (uTup (uRC uInt (uR1 uInt))) (uRC (uTup (uRC uInt (uR1 uInt))) (uRC (uTup (uRC uInt (uR1 uInt))) (uR1 (uTup (uRC uInt (uR1 uInt)))))))) v19) ((uSeq (uTup (uRC uInt (uR1 uInt)))) v21) >>= fun v22 =>
 some (!v22)) (some false)) >>= fun c23 =>
 cond c23 (some (.rt false)) (some (.nx ())))) : Option (Fl Unit Bool)) >>= (fun o => match o with
 | .nx s9 => some true
 | .rt x => some x
 | .bk _ => none
 | .ct _ => none))
abbrev st__law_right : Stmt := top 42
theorem S__law_right : FnScope ["ask", "door", "unit", "box", "heading", "d", "other", "loose", "long", "told", "each", "given"] ["ask", "door"] (defScope st__law_right) := ⟨rfl, rfl, rfl, by decide +kernel, rfl, by decide +kernel, by decide +kernel⟩
theorem ok__law_right {fa : Addr} {fd : FuncData} (T : Txt w K mg) (F : FunD K "_law_right" "_law_right" (defArgs st__law_right) (defBody st__law_right) (defScope st__law_right) [] [] fa fd) (hm : mg "_law_right" = some (.ref fa)) (F__law_low : FnP P w K mg base "_law_low" (1) ["n", "d"] (spP K (tcC cInt (tc1 cInt)) (fun x => m_law_low x.1 x.2) (cTup (tcC cInt (tc1 cInt))))) (F_passes_clear : FnP P w K mg base "passes_clear" (5) ["box", "heading", "distance", "other"] (spP K (tcC (cTup (tcC (cTup (tcC cInt (tc1 cInt))) (tcC (cTup (tcC cInt (tc1 cInt))) (tcC (cTup (tcC cInt (tc1 cInt))) (tc1 (cTup (tcC cInt (tc1 cInt)))))))) (tcC cStr (tcC (cTup (tcC cInt (tc1 cInt))) (tc1 (cTup (tcC (cTup (tcC cInt (tc1 cInt))) (tcC (cTup (tcC cInt (tc1 cInt))) (tcC (cTup (tcC cInt (tc1 cInt))) (tc1 (cTup (tcC cInt (tc1 cInt)))))))))))) (fun x => m_passes_clear x.1 x.2.1 x.2.2.1 x.2.2.2) cBool)) (F__law_given : FnP P w K mg base "_law_given" (2) ["box", "unit"] (spP K (tcC (cTup (tcC cInt (tcC cInt (tcC cInt (tc1 cInt))))) (tc1 cInt)) (fun x => m_law_given x.1 x.2) (cSeq (cTup (tcC cInt (tc1 cInt)))))) (F__law_same : ∀ fuel : Nat, FnP P w K mg base "_law_same" (1 + fuel) ["told", "wanted"] (spP K (tcC cU (tc1 cU)) (fun x => m_law_same fuel x.1 x.2) cBool)) (F__law_clear : FnP P w K mg base "_law_clear" (4) ["box", "heading", "d", "other"] (spP K (tcC (cTup (tcC cInt (tcC cInt (tcC cInt (tc1 cInt))))) (tcC cStr (tcC cInt (tc1 (cTup (tcC cInt (tcC cInt (tcC cInt (tc1 cInt))))))))) (fun x => m_law_clear x.1 x.2.1 x.2.2.1 x.2.2.2) cBool)) (F_go_box : FnP P w K mg base "go_box" (3) ["box", "heading", "distance"] (spP K (tcC (cTup (tcC (cTup (tcC cInt (tc1 cInt))) (tcC (cTup (tcC cInt (tc1 cInt))) (tcC (cTup (tcC cInt (tc1 cInt))) (tc1 (cTup (tcC cInt (tc1 cInt)))))))) (tcC cStr (tc1 (cTup (tcC cInt (tc1 cInt)))))) (fun x => m_go_box x.1 x.2.1 x.2.2) (cTup (tcC (cTup (tcC cInt (tc1 cInt))) (tcC (cTup (tcC cInt (tc1 cInt))) (tcC (cTup (tcC cInt (tc1 cInt))) (tc1 (cTup (tcC cInt (tc1 cInt)))))))))) (F__law_m_go : FnP P w K mg base "_law_m_go" (2) ["box", "heading", "d"] (spP K (tcC (cTup (tcC cInt (tcC cInt (tcC cInt (tc1 cInt))))) (tcC cStr (tc1 cInt))) (fun x => m_law_m_go x.1 x.2.1 x.2.2) (cTup (tcC cInt (tcC cInt (tcC cInt (tc1 cInt))))))) (F_swept_box : FnP P w K mg base "swept_box" (4) ["box", "heading", "distance"] (spP K (tcC (cTup (tcC (cTup (tcC cInt (tc1 cInt))) (tcC (cTup (tcC cInt (tc1 cInt))) (tcC (cTup (tcC cInt (tc1 cInt))) (tc1 (cTup (tcC cInt (tc1 cInt)))))))) (tcC cStr (tc1 (cTup (tcC cInt (tc1 cInt)))))) (fun x => m_swept_box x.1 x.2.1 x.2.2) (cTup (tcC (cTup (tcC cInt (tc1 cInt))) (tcC (cTup (tcC cInt (tc1 cInt))) (tcC (cTup (tcC cInt (tc1 cInt))) (tc1 (cTup (tcC cInt (tc1 cInt)))))))))) (F__law_m_swept : FnP P w K mg base "_law_m_swept" (3) ["box", "heading", "d"] (spP K (tcC (cTup (tcC cInt (tcC cInt (tcC cInt (tc1 cInt))))) (tcC cStr (tc1 cInt))) (fun x => m_law_m_swept x.1 x.2.1 x.2.2) (cTup (tcC cInt (tcC cInt (tcC cInt (tc1 cInt))))))) : FnP P w K mg base "_law_right" 8 ["ask", "door"] (spP K (tcC (cTup (tcC cInt (tcC (cTup (tcC cInt (tcC cInt (tcC cInt (tc1 cInt))))) (tcC cStr (tcC cInt (tcC (cTup (tcC cInt (tcC cInt (tcC cInt (tc1 cInt))))) (tc1 (cTup (tcC cInt (tcC cInt (tcC cInt (tc1 cInt)))))))))))) (tc1 cInt)) (fun x => m_law_right x.1 x.2) cBool) := by
  refine fnp_of hm F (fn_top (fun _ => False) (fun _ h => h.elim) F S__law_right (penC pen1) (fun x => [.im (cTup (tcC cInt (tcC (cTup (tcC cInt (tcC cInt (tcC cInt (tc1 cInt))))) (tcC cStr (tcC cInt (tcC (cTup (tcC cInt (tcC cInt (tcC cInt (tc1 cInt))))) (tc1 (cTup (tcC cInt (tcC cInt (tcC cInt (tc1 cInt)))))))))))) x.1, .im cInt x.2, .no, .no, .no, .no, .no, .no, .no, .no, .no, .no]) fun cdv A outer s H E hr C hB x => ?_) (fun _ _ _ _ _ _ us hl => match us, hl with | [_, _], _ => rfl)
  obtain ⟨a_ask, a_door⟩ := x
  show GK _ C _ _ (m_law_right a_ask a_door) _
  unfold m_law_right
  exact (gk_cons (gs_asg (ag_tup rfl (ags_cons (ag_name 2 S__law_right.nd) (ags_cons (ag_name 3 S__law_right.nd) (ags_cons (ag_name 4 S__law_right.nd) (ags_cons (ag_name 5 S__law_right.nd) (ags_cons (ag_name 6 S__law_right.nd) (ags_one (ag_name 7 S__law_right.nd)))))))) (ex_var 0 (gk_cons (gs_set 8 (ex_call F__law_low (hr.mono (by decide)) (ea_cons (ex_var 5 (ea_one (ex_var 2 (⟨_, rfl, fun v1 => gk_cons (gs_ifR (et_cmp o_eq (ex_var 1 (ex_int (⟨_, _, rfl, gk_cons (gs_set 9 (ex_call F_passes_clear (hr.mono (by decide)) (ea_cons (ex_cast (decT (decRC (decT (decRC decI (decR1 decI))) (decRC (decT (decRC decI (decR1 decI))) (decRC (decT (decRC decI (decR1 decI))) (decR1 (decT (decRC decI (decR1 decI)))))))) (ex_call F__law_given (hr.mono (by decide)) (ea_cons (ex_var 3 (ea_one (ex_var 2 (⟨_, rfl, fun v2 => ⟨_, rfl, fun v3 => ea_cons (ex_var 4 (ea_cons (ex_var 8 (ea_one (ex_cast (decT (decRC (decT (decRC decI (decR1 decI))) (decRC (decT (decRC decI (decR1 decI))) (decRC (decT (decRC decI (decR1 decI))) (decR1 (decT (decRC decI (decR1 decI)))))))) (ex_call F__law_given (hr.mono (by decide)) (ea_cons (ex_var 6 (ea_one (ex_var 2 (⟨_, rfl, fun v4 => ⟨_, rfl, fun v5 => ⟨_, rfl, fun v6 => gk_one (gs_ret (ex_call (F__law_same 6) (hr.mono (by decide)) (ea_cons (ex_u (ex_var 9 (ea_one (ex_u (ex_call F__law_clear (hr.mono (by decide)) (ea_cons (ex_var 3 (ea_cons (ex_var 4 (ea_cons (ex_var 5 (ea_one (ex_var 6 (⟨_, rfl, fun v7 => ⟨_, rfl, fun v8 => rfl⟩⟩)))))))))))))))))⟩⟩⟩)))))))))))⟩⟩))))))))) S__law_right.nd), gk_cons (gs_forF (c := (cTup (tcC cInt (tcC cInt (tcC cInt (tc1 cInt)))))) (fun (s9 : Unit) => [.im (cTup (tcC cInt (tcC (cTup (tcC cInt (tcC cInt (tcC cInt (tc1 cInt))))) (tcC cStr (tcC cInt (tcC (cTup (tcC cInt (tcC cInt (tcC cInt (tc1 cInt))))) (tc1 (cTup (tcC cInt (tcC cInt (tcC cInt (tc1 cInt)))))))))))) a_ask, .im cInt a_door, .im cInt a_ask.1, .im (cTup (tcC cInt (tcC cInt (tcC cInt (tc1 cInt))))) a_ask.2.1, .im cStr a_ask.2.2.1, .im cInt a_ask.2.2.2.1, .im (cTup (tcC cInt (tcC cInt (tcC cInt (tc1 cInt))))) a_ask.2.2.2.2.1, .im (cTup (tcC cInt (tcC cInt (tcC cInt (tc1 cInt))))) a_ask.2.2.2.2.2, .im (cTup (tcC cInt (tc1 cInt))) v1, .no, .no, .no]) rfl (ag_name 10 S__law_right.nd) (ei_lst (ex_froz (ef_lst (el_cons (ex_var 7 (el_cons (ex_var 3 (el_nil (⟨_, _, _, rfl, wk_refl, fun x10 s9 => gk_cons (gs_set (c := (cSeq (cTup (tcC cInt (tc1 cInt))))) 11 (ex_call F__law_given (hr.mono (by decide)) (ea_cons (ex_var 10 (ea_one (ex_var 2 (⟨_, rfl, fun v11 => gk_cons (gs_ifR (et_w (ew_and (fun (c : Bool) => c) (fun _ => [.im (cTup (tcC cInt (tcC (cTup (tcC cInt (tcC cInt (tcC cInt (tc1 cInt))))) (tcC cStr (tcC cInt (tcC (cTup (tcC cInt (tcC cInt (tcC cInt (tc1 cInt))))) (tc1 (cTup (tcC cInt (tcC cInt (tcC cInt (tc1 cInt)))))))))))) a_ask, .im cInt a_door, .im cInt a_ask.1, .im (cTup (tcC cInt (tcC cInt (tcC cInt (tc1 cInt))))) a_ask.2.1, .im cStr a_ask.2.2.1, .im cInt a_ask.2.2.2.1, .im (cTup (tcC cInt (tcC cInt (tcC cInt (tc1 cInt))))) a_ask.2.2.2.2.1, .im (cTup (tcC cInt (tcC cInt (tcC cInt (tc1 cInt))))) a_ask.2.2.2.2.2, .im (cTup (tcC cInt (tc1 cInt))) v1, .no, .im (cTup (tcC cInt (tcC cInt (tcC cInt (tc1 cInt))))) x10, .im (cSeq (cTup (tcC cInt (tc1 cInt)))) v11]) (et_cmp o_eq (ex_var 1 (ex_int (⟨_, false, _, rfl, rfl, wk_refl, ew_and1 (ew_not (et_val (ex_call (F__law_same 6) (hr.mono (by decide)) (ea_cons (ex_u (ex_call F_go_box (hr.mono (by decide)) (ea_cons (ex_cast (decT (decRC (decT (decRC decI (decR1 decI))) (decRC (decT (decRC decI (decR1 decI))) (decRC (decT (decRC decI (decR1 decI))) (decR1 (decT (decRC decI (decR1 decI)))))))) (ex_var 11 (⟨_, rfl, fun v12 => ea_cons (ex_var 4 (ea_one (ex_var 8 (⟨_, rfl, fun v13 => ea_one (ex_u (ex_call F__law_given (hr.mono (by decide)) (ea_cons (ex_call F__law_m_go (hr.mono (by decide)) (ea_cons (ex_var 10 (ea_cons (ex_var 4 (ea_one (ex_var 5 (⟨_, rfl, fun v14 => ea_one (ex_var 2 (⟨_, rfl, fun v15 => ⟨_, rfl, fun v16 => fin wk_refl⟩⟩))⟩)))))))))))⟩))))⟩)))))))))), fun c17 => ⟨_, _, rfl, gk_one (gs_ret (ex_bl (rfl))), gk_one (gs_ifR (et_w (ew_and (fun (c : Bool) => c) (fun _ => [.im (cTup (tcC cInt (tcC (cTup (tcC cInt (tcC cInt (tcC cInt (tc1 cInt))))) (tcC cStr (tcC cInt (tcC (cTup (tcC cInt (tcC cInt (tcC cInt (tc1 cInt))))) (tc1 (cTup (tcC cInt (tcC cInt (tcC cInt (tc1 cInt)))))))))))) a_ask, .im cInt a_door, .im cInt a_ask.1, .im (cTup (tcC cInt (tcC cInt (tcC cInt (tc1 cInt))))) a_ask.2.1, .im cStr a_ask.2.2.1, .im cInt a_ask.2.2.2.1, .im (cTup (tcC cInt (tcC cInt (tcC cInt (tc1 cInt))))) a_ask.2.2.2.2.1, .im (cTup (tcC cInt (tcC cInt (tcC cInt (tc1 cInt))))) a_ask.2.2.2.2.2, .im (cTup (tcC cInt (tc1 cInt))) v1, .no, .im (cTup (tcC cInt (tcC cInt (tcC cInt (tc1 cInt))))) x10, .im (cSeq (cTup (tcC cInt (tc1 cInt)))) v11]) (et_cmp o_eq (ex_var 1 (ex_int (⟨_, false, _, rfl, rfl, wk_refl, ew_and1 (ew_not (et_val (ex_call (F__law_same 6) (hr.mono (by decide)) (ea_cons (ex_u (ex_call F_swept_box (hr.mono (by decide)) (ea_cons (ex_cast (decT (decRC (decT (decRC decI (decR1 decI))) (decRC (decT (decRC decI (decR1 decI))) (decRC (decT (decRC decI (decR1 decI))) (decR1 (decT (decRC decI (decR1 decI)))))))) (ex_var 11 (⟨_, rfl, fun v18 => ea_cons (ex_var 4 (ea_one (ex_var 8 (⟨_, rfl, fun v19 => ea_one (ex_u (ex_call F__law_given (hr.mono (by decide)) (ea_cons (ex_call F__law_m_swept (hr.mono (by decide)) (ea_cons (ex_var 10 (ea_cons (ex_var 4 (ea_one (ex_var 5 (⟨_, rfl, fun v20 => ea_one (ex_var 2 (⟨_, rfl, fun v21 => ⟨_, rfl, fun v22 => fin wk_refl⟩⟩))⟩)))))))))))⟩))))⟩)))))))))), fun c23 => ⟨_, _, rfl, gk_one (gs_ret (ex_bl (rfl))), ⟨_, rfl, wk_drops [10, 11]⟩⟩⟩)))))))⟩⟩)))))))⟩)))))) S__law_right.nd), fun s9 => gk_one (gs_ret (ex_bl (rfl))), fun _ => rfl⟩))))))))) .never)⟩)))))⟩)))))) S__law_right.nd)))))
def m_law (a_script : (List Int)) : Option Bool :=
 m_law_tape a_script >>= fun v1 =>
 m_law_ask v1 >>= fun v2 =>
 m_law_changed v2.2 v2.1 >>= fun v3 =>
 lt ([v2.1, v3.1, v2.1]) fun asks_4 =>
 m_law_turns v3.2 (4 : Int) >>= fun v5 =>
 (forF v5.1 v5.2 (fun x7 (s6 : Tape) => (cond (decide (x7 = (3 : Int))) (m_law_same 6 ((uSeq uStr) (["north", "east", "south", "west"] : List Str)) ((uTup (uRC uStr (uRC uStr (uRC uStr (uR1 uStr))))) (("north" : Str), ("east" : Str), ("south" : Str), ("west" : Str))) >>= fun v8 =>
 some (!v8)) (some false)) >>= fun c9 =>
 cond c9 (some (.rt false)) ((forF asks_4 () (fun x11 (s10 : Unit) => (cond (decide (x7 < (3 : Int))) (m_law_right x11 x7 >>= fun v12 =>
 some (!v12)) (some false)) >>= fun c13 =>
 cond c13 (some (.rt false)) (some (.nx ()))) : Option (Fl Unit Bool)) >>= (fun o => match o with
 | .nx s10 => some (.nx s6)
 | .rt x => some (.rt x)
 | .bk _ => none
 | .ct _ => none))) : Option (Fl Tape Bool)) >>= (fun o => match o with
 | .nx s6 => some true
 | .rt x => some x
 | .bk _ => none
 | .ct _ => none)
abbrev st_law : Stmt := top 43
theorem S_law : FnScope ["script", "tape", "first", "asks", "door", "ask"] ["script"] (defScope st_law) := ⟨rfl, rfl, rfl, by decide +kernel, rfl, by decide +kernel, by decide +kernel⟩
theorem ok_law {fa : Addr} {fd : FuncData} (T : Txt w K mg) (F : FunD K "law" "law" (defArgs st_law) (defBody st_law) (defScope st_law) [] [] fa fd) (F__law_tape : FnP P w K mg base "_law_tape" (1) ["script"] (spN K (tc1 cScr) (fun x => m_law_tape x) celT)) (F__law_ask : FnP P w K mg base "_law_ask" (4) ["tape"] (spM K celT tc0 (fun tp x => m_law_ask tp) (cTup (tcC cInt (tcC (cTup (tcC cInt (tcC cInt (tcC cInt (tc1 cInt))))) (tcC cStr (tcC cInt (tcC (cTup (tcC cInt (tcC cInt (tcC cInt (tc1 cInt))))) (tc1 (cTup (tcC cInt (tcC cInt (tcC cInt (tc1 cInt)))))))))))))) (F__law_changed : FnP P w K mg base "_law_changed" (4) ["tape", "ask"] (spM K celT (tc1 (cTup (tcC cInt (tcC (cTup (tcC cInt (tcC cInt (tcC cInt (tc1 cInt))))) (tcC cStr (tcC cInt (tcC (cTup (tcC cInt (tcC cInt (tcC cInt (tc1 cInt))))) (tc1 (cTup (tcC cInt (tcC cInt (tcC cInt (tc1 cInt))))))))))))) (fun tp x => m_law_changed tp x) (cTup (tcC cInt (tcC (cTup (tcC cInt (tcC cInt (tcC cInt (tc1 cInt))))) (tcC cStr (tcC cInt (tcC (cTup (tcC cInt (tcC cInt (tcC cInt (tc1 cInt))))) (tc1 (cTup (tcC cInt (tcC cInt (tcC cInt (tc1 cInt)))))))))))))) (F__law_turns : FnP P w K mg base "_law_turns" (2) ["tape", "many"] (spMN K celT (tc1 cInt) (fun tp x => m_law_turns tp x) (lstC cInt))) (F__law_same : ∀ fuel : Nat, FnP P w K mg base "_law_same" (1 + fuel) ["told", "wanted"] (spP K (tcC cU (tc1 cU)) (fun x => m_law_same fuel x.1 x.2) cBool)) (F__law_right : FnP P w K mg base "_law_right" (8) ["ask", "door"] (spP K (tcC (cTup (tcC cInt (tcC (cTup (tcC cInt (tcC cInt (tcC cInt (tc1 cInt))))) (tcC cStr (tcC cInt (tcC (cTup (tcC cInt (tcC cInt (tcC cInt (tc1 cInt))))) (tc1 (cTup (tcC cInt (tcC cInt (tcC cInt (tc1 cInt)))))))))))) (tc1 cInt)) (fun x => m_law_right x.1 x.2) cBool)) : FnOk P w K mg base CX0 9 fa fd ["script"] (spP K (tc1 cScr) (fun x => m_law x) cBool) := by
  obtain ⟨ad_HEADINGS, o_HEADINGS, g_HEADINGS, q_HEADINGS, w_HEADINGS⟩ := T.c_HEADINGS
  refine (fn_top (fun _ => False) (fun _ h => h.elim) F S_law pen1 (fun x => [.im cScr x, .no, .no, .no, .no, .no]) fun cdv A outer s H E hr C hB a_script => ?_)
  show GK _ C _ _ (m_law a_script) _
  unfold m_law
  exact (gk_cons (gs_setN (c := celT) 1 (ef_call F__law_tape (hr.mono (by decide)) (ea_one (ex_var 0 (⟨_, rfl, fun v1 => gk_cons (gs_set 2 (ex_callO 1 F__law_ask (hr.mono (by decide)) (ea_nil (⟨_, rfl, _, rfl, fun v2 => gk_cons (gs_let 3 (ex_froz (ef_lst (el_cons (ex_var 2 (el_cons (ex_callO 1 F__law_changed (hr.mono (by decide)) (ea_one (ex_var 2 (⟨_, rfl, _, rfl, fun v3 => el_cons (ex_var 2 (el_nil (⟨_, rfl, fun asks_4 => gk_cons (gs_forF (c := cInt) (fun (s6 : Tape) => [.im cScr a_script, .ow celT s6, .im (cTup (tcC cInt (tcC (cTup (tcC cInt (tcC cInt (tcC cInt (tc1 cInt))))) (tcC cStr (tcC cInt (tcC (cTup (tcC cInt (tcC cInt (tcC cInt (tc1 cInt))))) (tc1 (cTup (tcC cInt (tcC cInt (tcC cInt (tc1 cInt)))))))))))) v2.1, .im (cLst (cTup (tcC cInt (tcC (cTup (tcC cInt (tcC cInt (tcC cInt (tc1 cInt))))) (tcC cStr (tcC cInt (tcC (cTup (tcC cInt (tcC cInt (tcC cInt (tc1 cInt))))) (tc1 (cTup (tcC cInt (tcC cInt (tcC cInt (tc1 cInt))))))))))))) asks_4, .no, .no]) rfl (ag_name 4 S_law.nd) (ei_lst (ex_froz (ef_callO 1 F__law_turns (hr.mono (by decide)) (ea_one (ex_int (⟨_, rfl, _, rfl, fun v5 => ⟨_, _, _, rfl, wk_refl, fun x7 s6 => gk_cons (gs_ifR (et_w (ew_and (fun (c : Bool) => c) (fun _ => [.im cScr a_script, .ow celT s6, .im (cTup (tcC cInt (tcC (cTup (tcC cInt (tcC cInt (tcC cInt (tc1 cInt))))) (tcC cStr (tcC cInt (tcC (cTup (tcC cInt (tcC cInt (tcC cInt (tc1 cInt))))) (tc1 (cTup (tcC cInt (tcC cInt (tcC cInt (tc1 cInt)))))))))))) v2.1, .im (cLst (cTup (tcC cInt (tcC (cTup (tcC cInt (tcC cInt (tcC cInt (tc1 cInt))))) (tcC cStr (tcC cInt (tcC (cTup (tcC cInt (tcC cInt (tcC cInt (tc1 cInt))))) (tc1 (cTup (tcC cInt (tcC cInt (tcC cInt (tc1 cInt))))))))))))) asks_4, .im cInt x7, .no]) (et_cmp o_eq (ex_var 4 (ex_int (⟨_, false, _, rfl, rfl, wk_refl, ew_and1 (ew_not (et_val (ex_call (F__law_same 6) (hr.mono (by decide)) (ea_cons (ex_u (ex_glob g_HEADINGS (show RelV (V.ref ad_HEADINGS) (Value.ref ad_HEADINGS) from rfl) (fun _ => cStrs (q_HEADINGS _)) (ea_one (ex_u (ex_tup (ea_cons (ex_str (ea_cons (ex_str (ea_cons (ex_str (ea_one (ex_str (⟨_, rfl, fun v8 => fin wk_refl⟩)))))))))))))))))), fun c9 => ⟨_, _, rfl, gk_one (gs_ret (ex_bl (rfl))), gk_one (gs_forF (c := (cTup (tcC cInt (tcC (cTup (tcC cInt (tcC cInt (tcC cInt (tc1 cInt))))) (tcC cStr (tcC cInt (tcC (cTup (tcC cInt (tcC cInt (tcC cInt (tc1 cInt))))) (tc1 (cTup (tcC cInt (tcC cInt (tcC cInt (tc1 cInt))))))))))))) (fun (s10 : Unit) => [.im cScr a_script, .ow celT s6, .im (cTup (tcC cInt (tcC (cTup (tcC cInt (tcC cInt (tcC cInt (tc1 cInt))))) (tcC cStr (tcC cInt (tcC (cTup (tcC cInt (tcC cInt (tcC cInt (tc1 cInt))))) (tc1 (cTup (tcC cInt (tcC cInt (tcC cInt (tc1 cInt)))))))))))) v2.1, .im (cLst (cTup (tcC cInt (tcC (cTup (tcC cInt (tcC cInt (tcC cInt (tc1 cInt))))) (tcC cStr (tcC cInt (tcC (cTup (tcC cInt (tcC cInt (tcC cInt (tc1 cInt))))) (tc1 (cTup (tcC cInt (tcC cInt (tcC cInt (tc1 cInt))))))))))))) asks_4, .im cInt x7, .no]) rfl (ag_name 5 S_law.nd) (ei_lst (ex_var 3 (⟨_, _, _, rfl, wk_refl, fun x11 s10 => gk_one (gs_ifR (et_w (ew_and (fun (c : Bool) => c) (fun _ => [.im cScr a_script, .ow celT s6, .im (cTup (tcC cInt (tcC (cTup (tcC cInt (tcC cInt (tcC cInt (tc1 cInt))))) (tcC cStr (tcC cInt (tcC (cTup (tcC cInt (tcC cInt (tcC cInt (tc1 cInt))))) (tc1 (cTup (tcC cInt (tcC cInt (tcC cInt (tc1 cInt)))))))))))) v2.1, .im (cLst (cTup (tcC cInt (tcC (cTup (tcC cInt (tcC cInt (tcC cInt (tc1 cInt))))) (tcC cStr (tcC cInt (tcC (cTup (tcC cInt (tcC cInt (tcC cInt (tc1 cInt))))) (tc1 (cTup (tcC cInt (tcC cInt (tcC cInt (tc1 cInt))))))))))))) asks_4, .im cInt x7, .im (cTup (tcC cInt (tcC (cTup (tcC cInt (tcC cInt (tcC cInt (tc1 cInt))))) (tcC cStr (tcC cInt (tcC (cTup (tcC cInt (tcC cInt (tcC cInt (tc1 cInt))))) (tc1 (cTup (tcC cInt (tcC cInt (tcC cInt (tc1 cInt)))))))))))) x11]) (et_cmp o_lt (ex_var 4 (ex_int (⟨_, false, _, rfl, rfl, wk_refl, ew_and1 (ew_not (et_val (ex_call F__law_right (hr.mono (by decide)) (ea_cons (ex_var 5 (ea_one (ex_var 4 (⟨_, rfl, fun v12 => fin wk_refl⟩)))))))), fun c13 => ⟨_, _, rfl, gk_one (gs_ret (ex_bl (rfl))), ⟨_, rfl, wk_drops [5]⟩⟩⟩))))))), fun s10 => ⟨_, rfl, wk_drops [4]⟩, fun _ => rfl⟩))) .never)⟩⟩))))))), fun s6 => gk_one (gs_ret (ex_bl (rfl))), fun _ => rfl⟩⟩)))))) .never)⟩)))⟩))))))))) S_law.nd)⟩))) S_law.nd)⟩)))) S_law.nd))
end
end K39

set_option maxHeartbeats 1000000
namespace K39
open PySem L2 Ty
theorem Ok.get {α β : Type} {m : Option α} {v : α} {k : α → Option β} {P : β → Prop} (e : m = some v) (h : Ok (k v) P) : Ok (m >>= k) P := by subst e; exact h
abbrev heads : List Str := ["north", "east", "south", "west"]
abbrev Ask := Int × IB × Str × Int × IB × IB
/-- where a box is when it has gone -/
def goI (b : IB) (h : Str) (d : Int) : IB :=
  if h = "north" then (b.1, b.2.1 + d, b.2.2.1, b.2.2.2 + d) else if h = "east" then (b.1 + d, b.2.1, b.2.2.1 + d, b.2.2.2) else if h = "south" then (b.1, b.2.1 - d, b.2.2.1, b.2.2.2 - d) else (b.1 - d, b.2.1, b.2.2.1 - d, b.2.2.2)
def swI (b : IB) (h : Str) (d : Int) : IB :=
  if h = "north" then (b.1, b.2.1, b.2.2.1, b.2.2.2 + d) else if h = "east" then (b.1, b.2.1, b.2.2.1 + d, b.2.2.2) else if h = "south" then (b.1, b.2.1 - d, b.2.2.1, b.2.2.2) else (b.1 - d, b.2.1, b.2.2.1, b.2.2.2)
def Bd (n : Int) (b : IB) : Prop := (-n ≤ b.1 ∧ b.1 ≤ n) ∧ (-n ≤ b.2.1 ∧ b.2.1 ≤ n) ∧ (-n ≤ b.2.2.1 ∧ b.2.2.1 ≤ n) ∧ (-n ≤ b.2.2.2 ∧ b.2.2.2 ≤ n)
theorem Bd.b {n : Int} {b : IB} (h : Bd n b) (hn : n < 2 ^ 90) : BdB b := by
  obtain ⟨⟨a1, a2⟩, ⟨b1, b2⟩, ⟨c1, c2⟩, ⟨d1, d2⟩⟩ := h
  exact ⟨by show _ < _; omega, by show _ < _; omega, by show _ < _; omega, by show _ < _; omega⟩
theorem head_cases {h : Str} (hh : h ∈ heads) : h = "north" ∨ h = "east" ∨ h = "south" ∨ h = "west" := by simpa [heads] using hh
theorem go_bd {n d : Int} {b : IB} {h : Str} (hb : Bd n b) (h0 : 0 ≤ d) (hd : d ≤ n) : Bd (n + n) (goI b h d) := by
  obtain ⟨⟨a1, a2⟩, ⟨b1, b2⟩, ⟨c1, c2⟩, ⟨d1, d2⟩⟩ := hb
  unfold goI Bd
  split
  · dsimp only; omega
  · split
    · dsimp only; omega
    · split <;> (dsimp only; omega)
theorem sw_bd {n d : Int} {b : IB} {h : Str} (hb : Bd n b) (h0 : 0 ≤ d) (hd : d ≤ n) : Bd (n + n) (swI b h d) := by
  obtain ⟨⟨a1, a2⟩, ⟨b1, b2⟩, ⟨c1, c2⟩, ⟨d1, d2⟩⟩ := hb
  unfold swI Bd
  split
  · dsimp only; omega
  · split
    · dsimp only; omega
    · split <;> (dsimp only; omega)
theorem small_of {n d : Int} (h0 : -n ≤ d) (hd : d ≤ n) (hn : n < 2 ^ 90) : d.natAbs < 2 ^ 250 := by omega
theorem go_eq {b : IB} {h : Str} {d : Int} (hh : h ∈ heads) (hd : d.natAbs < 2 ^ 250) : m_law_m_go b h d = some (goI b h d) := by
  have m0 : mulR d 0 = some 0 := by rw [mulR_s hd (by decide), Int.mul_zero]
  have m1 : mulR d 1 = some d := by rw [mulR_s hd (by decide), Int.mul_one]
  have m2 : mulR d (-1) = some (-d) := by rw [mulR_s hd (by decide)]; congr 1; omega
  obtain ⟨b1, b2, b3, b4⟩ := b
  unfold m_law_m_go
  rcases head_cases hh with rfl | rfl | rfl | rfl
  · show (mulR d 0 >>= fun v2 => mulR d 1 >>= fun v3 => mulR d 0 >>= fun v4 => mulR d 1 >>= fun v5 => some (b1 + v2, b2 + v3, b3 + v4, b4 + v5)) = _
    rw [m0, m1]
    show some (b1 + 0, b2 + d, b3 + 0, b4 + d) = some (b1, b2 + d, b3, b4 + d)
    rw [Int.add_zero, Int.add_zero]
  · show (mulR d 1 >>= fun v2 => mulR d 0 >>= fun v3 => mulR d 1 >>= fun v4 => mulR d 0 >>= fun v5 => some (b1 + v2, b2 + v3, b3 + v4, b4 + v5)) = _
    rw [m0, m1]
    show some (b1 + d, b2 + 0, b3 + d, b4 + 0) = some (b1 + d, b2, b3 + d, b4)
    rw [Int.add_zero, Int.add_zero]
  · show (mulR d 0 >>= fun v2 => mulR d (-1) >>= fun v3 => mulR d 0 >>= fun v4 => mulR d (-1) >>= fun v5 => some (b1 + v2, b2 + v3, b3 + v4, b4 + v5)) = _
    rw [m0, m2]
    show some (b1 + 0, b2 + -d, b3 + 0, b4 + -d) = some (b1, b2 - d, b3, b4 - d)
    rw [Int.add_zero, Int.add_zero]; rfl
  · show (mulR d (-1) >>= fun v2 => mulR d 0 >>= fun v3 => mulR d (-1) >>= fun v4 => mulR d 0 >>= fun v5 => some (b1 + v2, b2 + v3, b3 + v4, b4 + v5)) = _
    rw [m0, m2]
    show some (b1 + -d, b2 + 0, b3 + -d, b4 + 0) = some (b1 - d, b2, b3 - d, b4)
    rw [Int.add_zero, Int.add_zero]; rfl
theorem sw_eq {b : IB} {h : Str} {d : Int} (hh : h ∈ heads) (h0 : 0 ≤ d) (hd : d.natAbs < 2 ^ 250) : m_law_m_swept b h d = some (swI b h d) := by
  unfold m_law_m_swept
  rw [go_eq hh hd]
  obtain ⟨b1, b2, b3, b4⟩ := b
  have i1 : ∀ x : Int, minI x x = x := fun x => by unfold minI; simp
  have i2 : ∀ x : Int, maxI x x = x := fun x => by unfold maxI; simp
  have i3 : ∀ x : Int, minI x (x + d) = x := fun x => by unfold minI; split <;> omega
  have i4 : ∀ x : Int, maxI x (x + d) = x + d := fun x => by unfold maxI; split <;> omega
  have i5 : ∀ x : Int, minI x (x - d) = x - d := fun x => by unfold minI; split <;> omega
  have i6 : ∀ x : Int, maxI x (x - d) = x := fun x => by unfold maxI; split <;> omega
  rcases head_cases hh with rfl | rfl | rfl | rfl
  · show some (minI b1 b1, minI b2 (b2 + d), maxI b3 b3, maxI b4 (b4 + d)) = some (b1, b2, b3, b4 + d)
    rw [i1, i2, i3, i4]
  · show some (minI b1 (b1 + d), minI b2 b2, maxI b3 (b3 + d), maxI b4 b4) = some (b1, b2, b3 + d, b4)
    rw [i1, i2, i3, i4]
  · show some (minI b1 b1, minI b2 (b2 - d), maxI b3 b3, maxI b4 (b4 - d)) = some (b1, b2 - d, b3, b4)
    rw [i1, i2, i5, i6]
  · show some (minI b1 (b1 - d), minI b2 b2, maxI b3 (b3 - d), maxI b4 b4) = some (b1 - d, b2, b3, b4)
    rw [i1, i2, i5, i6]
/-! ### the program's -/
abbrev uF : Int × Int → U := uTup (uRC uInt (uR1 uInt))
abbrev uFB : FBx → U := uTup (uRC uF (uRC uF (uRC uF (uR1 uF))))
abbrev dFB : U → Option FBx := dTup (dRC (dTup (dRC dInt (dR1 dInt))) (dRC (dTup (dRC dInt (dR1 dInt))) (dRC (dTup (dRC dInt (dR1 dInt))) (dR1 (dTup (dRC dInt (dR1 dInt)))))))
def row (u : Int) (b : IB) : List (Int × Int) := [lowV b.1 u, lowV b.2.1 u, lowV b.2.2.1 u, lowV b.2.2.2 u]
section
variable {u d : Int} {b c : IB} {h : Str}
theorem given_eq (hu : 0 < u) (bu : B100 u) : m_law_given b u = some (row u b) := by
  have e : ∀ x, m_law_low x u = some (lowV x u) := fun x => by rw [low_eq, lowR_eq (by omega) (b100_250 bu)]
  unfold m_law_given
  show (((m_law_low b.1 u >>= fun v2 => some v2) >>= fun y1 => ((m_law_low b.2.1 u >>= fun v2 => some v2) >>= fun y2 => ((m_law_low b.2.2.1 u >>= fun v2 => some v2) >>= fun y3 => ((m_law_low b.2.2.2 u >>= fun v2 => some v2) >>= fun y4 => some [] >>= fun ys => some (y4 :: ys)) >>= fun ys => some (y3 :: ys)) >>= fun ys => some (y2 :: ys)) >>= fun ys => some (y1 :: ys)) >>= fun ys3 => some ys3) = _
  rw [e, e, e, e]; rfl
theorem dFB_row : dFB (uSeq uF (row u b)) = some (frB u b) := rfl
theorem gob_eq (hu : 0 < u) (bu : B100 u) (hb : BdB b) (bd : B100 d) (hh : h ∈ heads) : m_go_box (frB u b) h (lowV d u) = some (frB u (goI b h d)) := by
  obtain ⟨h1, h2, h3, h4⟩ := hb
  obtain ⟨b1, b2, b3, b4⟩ := b
  unfold m_go_box frB
  dsimp only at h1 h2 h3 h4 ⊢
  rcases head_cases hh with rfl | rfl | rfl | rfl
  · show (m_plus _ _ >>= fun v1 => m_plus _ _ >>= fun v2 => some (_, v1, _, v2)) = some (lowV b1 u, lowV (b2 + d) u, lowV b3 u, lowV (b4 + d) u)
    rw [plus_fr hu h2 bd bu, plus_fr hu h4 bd bu]; rfl
  · show (m_plus _ _ >>= fun v1 => m_plus _ _ >>= fun v2 => some (v1, _, v2, _)) = some (lowV (b1 + d) u, lowV b2 u, lowV (b3 + d) u, lowV b4 u)
    rw [plus_fr hu h1 bd bu, plus_fr hu h3 bd bu]; rfl
  · show (m_minus _ _ >>= fun v1 => m_minus _ _ >>= fun v2 => some (_, v1, _, v2)) = some (lowV b1 u, lowV (b2 - d) u, lowV b3 u, lowV (b4 - d) u)
    rw [minus_fr hu h2 bd bu, minus_fr hu h4 bd bu]; rfl
  · show (m_minus _ _ >>= fun v1 => m_minus _ _ >>= fun v2 => some (v1, _, v2, _)) = some (lowV (b1 - d) u, lowV b2 u, lowV (b3 - d) u, lowV b4 u)
    rw [minus_fr hu h1 bd bu, minus_fr hu h3 bd bu]; rfl
theorem swb_eq (hu : 0 < u) (bu : B100 u) (hb : BdB b) (bd : B100 d) (hh : h ∈ heads) : m_swept_box (frB u b) h (lowV d u) = some (frB u (swI b h d)) := by
  unfold m_swept_box
  rw [gob_eq hu bu hb bd hh]
  obtain ⟨b1, b2, b3, b4⟩ := b
  rcases head_cases hh with rfl | rfl | rfl | rfl <;> rfl
theorem clear_eq (hu : 0 < u) (bu : B100 u) (hb : BdB b) (bd : B100 d) (hs : BdB (swI b h d)) (hc : BdB c) (hh : h ∈ heads) (w : wideI (swI b h d) = true) : m_passes_clear (frB u b) h (lowV d u) (frB u c) = some (!lapI (swI b h d) c) := by
  unfold m_passes_clear
  rw [swb_eq hu bu hb bd hh]
  show (m_boxes_lap (frB u (swI b h d)) (frB u c) >>= fun v2 => some (!v2)) = _
  rw [laps_fr hu bu hs hc, w]
  rfl
end
/-! ### the law's own -/
section
variable {d : Int} {b c : IB} {h : Str}
def hit (b : IB) (h : Str) (d : Int) (c : IB) (t : Int) : Bool := decide (0 ≤ t) && (decide (t ≤ d) && lapI (goI b h t) c)
theorem hit_step (hh : h ∈ heads) (hw : b.1 < b.2.2.1 ∧ b.2.1 < b.2.2.2) {t : Int} (ht : t.natAbs < 2 ^ 250) {β : Type} (k : Bool → Option β) :
    ((cond (decide ((0 : Int) ≤ t)) ((cond (decide (t ≤ d)) (m_law_m_go b h t >>= fun v5 => m_law_lap [v5] [c] >>= fun v6 => some v6) (some false)) >>= fun c7 => some c7) (some false)) >>= k) = k (hit b h d c t) := by
  rw [go_eq hh ht]
  have e : m_law_lap [goI b h t] [c] = some (lapI (goI b h t) c) := by
    rw [lap_one]
    have z : (decide ((goI b h t).1 = (goI b h t).2.2.1) || decide ((goI b h t).2.1 = (goI b h t).2.2.2)) = false := by
      unfold goI
      rcases head_cases hh with rfl | rfl | rfl | rfl <;> (simp only [Bool.or_eq_false_iff, decide_eq_false_iff_not]; first | (constructor <;> (intro q; have := hw.1; have := hw.2; first | (revert q; show ¬ (b.1 = b.2.2.1); omega) | (revert q; show ¬ (b.2.1 + t = b.2.2.2 + t); omega) | (revert q; show ¬ (b.1 + t = b.2.2.1 + t); omega) | (revert q; show ¬ (b.2.1 = b.2.2.2); omega) | (revert q; show ¬ (b.2.1 - t = b.2.2.2 - t); omega) | (revert q; show ¬ (b.1 - t = b.2.2.1 - t); omega))))
    rw [z]; rfl
  show ((cond (decide ((0 : Int) ≤ t)) ((cond (decide (t ≤ d)) (m_law_lap [goI b h t] [c] >>= fun v6 => some v6) (some false)) >>= fun c7 => some c7) (some false)) >>= k) = _
  rw [e]
  unfold hit
  cases decide ((0 : Int) ≤ t) <;> cases decide (t ≤ d) <;> rfl
def nearI (b : IB) (h : Str) (c : IB) : Int := if h = "north" then c.2.1 - b.2.2.2 else if h = "east" then c.1 - b.2.2.1 else if h = "south" then b.2.1 - c.2.2.2 else b.1 - c.2.2.1
def farI (b : IB) (h : Str) (c : IB) : Int := if h = "north" then c.2.2.2 - b.2.1 else if h = "east" then c.2.2.1 - b.1 else if h = "south" then b.2.2.2 - c.2.1 else b.2.2.1 - c.1
theorem near_eq (hh : h ∈ heads) : m_law_near_far b h c = some (nearI b h c, farI b h c) := by
  unfold m_law_near_far
  rcases head_cases hh with rfl | rfl | rfl | rfl <;> rfl
def mid (b : IB) (h : Str) (d : Int) (c : IB) : Int := (maxI 0 (nearI b h c) + minI d (farI b h c)) / 2
theorem hits (hw : b.1 + 2 ≤ b.2.2.1 ∧ b.2.1 + 2 ≤ b.2.2.2) (hc : c.1 ≤ c.2.2.1 ∧ c.2.1 ≤ c.2.2.2) (h0 : 0 ≤ d) (hh : h ∈ heads) : lapI (swI b h d) c = (hit b h d c 0 || (hit b h d c d || hit b h d c (mid b h d c))) := by
  obtain ⟨b1, b2, b3, b4⟩ := b
  obtain ⟨c1, c2, c3, c4⟩ := c
  unfold hit mid lapI
  dsimp only at hw hc
  rw [Bool.eq_iff_iff]
  simp only [Bool.and_eq_true, Bool.or_eq_true, decide_eq_true_eq]
  rcases head_cases hh with rfl | rfl | rfl | rfl
  · show (b1 < c3 ∧ c1 < b3 ∧ b2 < c4 ∧ c2 < b4 + d) ↔ (0 ≤ (0 : Int) ∧ 0 ≤ d ∧ b1 < c3 ∧ c1 < b3 ∧ b2 + 0 < c4 ∧ c2 < b4 + 0) ∨ (0 ≤ d ∧ d ≤ d ∧ b1 < c3 ∧ c1 < b3 ∧ b2 + d < c4 ∧ c2 < b4 + d) ∨ (0 ≤ (maxI 0 (c2 - b4) + minI d (c4 - b2)) / 2 ∧ (maxI 0 (c2 - b4) + minI d (c4 - b2)) / 2 ≤ d ∧ b1 < c3 ∧ c1 < b3 ∧ b2 + (maxI 0 (c2 - b4) + minI d (c4 - b2)) / 2 < c4 ∧ c2 < b4 + (maxI 0 (c2 - b4) + minI d (c4 - b2)) / 2)
    unfold maxI minI
    split <;> split <;> omega
  · show (b1 < c3 ∧ c1 < b3 + d ∧ b2 < c4 ∧ c2 < b4) ↔ (0 ≤ (0 : Int) ∧ 0 ≤ d ∧ b1 + 0 < c3 ∧ c1 < b3 + 0 ∧ b2 < c4 ∧ c2 < b4) ∨ (0 ≤ d ∧ d ≤ d ∧ b1 + d < c3 ∧ c1 < b3 + d ∧ b2 < c4 ∧ c2 < b4) ∨ (0 ≤ (maxI 0 (c1 - b3) + minI d (c3 - b1)) / 2 ∧ (maxI 0 (c1 - b3) + minI d (c3 - b1)) / 2 ≤ d ∧ b1 + (maxI 0 (c1 - b3) + minI d (c3 - b1)) / 2 < c3 ∧ c1 < b3 + (maxI 0 (c1 - b3) + minI d (c3 - b1)) / 2 ∧ b2 < c4 ∧ c2 < b4)
    unfold maxI minI
    split <;> split <;> omega
  · show (b1 < c3 ∧ c1 < b3 ∧ b2 - d < c4 ∧ c2 < b4) ↔ (0 ≤ (0 : Int) ∧ 0 ≤ d ∧ b1 < c3 ∧ c1 < b3 ∧ b2 - 0 < c4 ∧ c2 < b4 - 0) ∨ (0 ≤ d ∧ d ≤ d ∧ b1 < c3 ∧ c1 < b3 ∧ b2 - d < c4 ∧ c2 < b4 - d) ∨ (0 ≤ (maxI 0 (b2 - c4) + minI d (b4 - c2)) / 2 ∧ (maxI 0 (b2 - c4) + minI d (b4 - c2)) / 2 ≤ d ∧ b1 < c3 ∧ c1 < b3 ∧ b2 - (maxI 0 (b2 - c4) + minI d (b4 - c2)) / 2 < c4 ∧ c2 < b4 - (maxI 0 (b2 - c4) + minI d (b4 - c2)) / 2)
    unfold maxI minI
    split <;> split <;> omega
  · show (b1 - d < c3 ∧ c1 < b3 ∧ b2 < c4 ∧ c2 < b4) ↔ (0 ≤ (0 : Int) ∧ 0 ≤ d ∧ b1 - 0 < c3 ∧ c1 < b3 - 0 ∧ b2 < c4 ∧ c2 < b4) ∨ (0 ≤ d ∧ d ≤ d ∧ b1 - d < c3 ∧ c1 < b3 - d ∧ b2 < c4 ∧ c2 < b4) ∨ (0 ≤ (maxI 0 (b1 - c3) + minI d (b3 - c1)) / 2 ∧ (maxI 0 (b1 - c3) + minI d (b3 - c1)) / 2 ≤ d ∧ b1 - (maxI 0 (b1 - c3) + minI d (b3 - c1)) / 2 < c3 ∧ c1 < b3 - (maxI 0 (b1 - c3) + minI d (b3 - c1)) / 2 ∧ b2 < c4 ∧ c2 < b4)
    unfold maxI minI
    split <;> split <;> omega
theorem lclear_eq {n : Int} (hn : n < 2 ^ 80) (hb : Bd n b) (hcb : Bd n c) (hd : d ≤ n) (hw : b.1 + 2 ≤ b.2.2.1 ∧ b.2.1 + 2 ≤ b.2.2.2) (hc : c.1 ≤ c.2.2.1 ∧ c.2.1 ≤ c.2.2.2) (h0 : 0 ≤ d) (hh : h ∈ heads) : m_law_clear b h d c = some (!lapI (swI b h d) c) := by
  have hw' : b.1 < b.2.2.1 ∧ b.2.1 < b.2.2.2 := by omega
  have bm : (mid b h d c).natAbs < 2 ^ 250 := by
    obtain ⟨⟨a1, a2⟩, ⟨b1, b2⟩, ⟨c1, c2⟩, ⟨d1, d2⟩⟩ := hb
    obtain ⟨⟨a3, a4⟩, ⟨b3, b4⟩, ⟨c3, c4⟩, ⟨d3, d4⟩⟩ := hcb
    have n1 : -(n + n) ≤ nearI b h c ∧ nearI b h c ≤ n + n := by
      unfold nearI; split
      · omega
      · split
        · omega
        · split <;> omega
    have n2 : -(n + n) ≤ farI b h c ∧ farI b h c ≤ n + n := by
      unfold farI; split
      · omega
      · split
        · omega
        · split <;> omega
    unfold mid maxI minI
    split <;> split <;> omega
  unfold m_law_clear
  rw [near_eq hh]
  rw [obind_some]
  dsimp only
  rw [fdivR_s (by decide) (by decide), Int.fdiv_eq_ediv_of_nonneg _ (by decide), obind_some, show (maxI 0 (nearI b h c) + minI d (farI b h c)) / 2 = mid b h d c from rfl]
  rw [forF, hit_step hh hw' (by decide), hits hw hc h0 hh]
  cases hit b h d c 0 with
  | true => rfl
  | false =>
    rw [cond_false, obind_some]
    dsimp only
    rw [forF, hit_step hh hw' (by omega)]
    cases hit b h d c d with
    | true => rfl
    | false =>
      rw [cond_false, obind_some]
      dsimp only
      rw [forF, hit_step hh hw' bm]
      cases hit b h d c (mid b h d c) <;> rfl
end
/-! ### what is asked -/
structure AskP (n : Int) (a : Ask) : Prop where
  u0 : 0 < a.1
  u1 : a.1 ≤ 1998
  b : Bd n a.2.1
  w : a.2.1.1 + 2 ≤ a.2.1.2.2.1 ∧ a.2.1.2.1 + 2 ≤ a.2.1.2.2.2
  h : a.2.2.1 ∈ heads
  d0 : 0 ≤ a.2.2.2.1
  d1 : a.2.2.2.1 ≤ n
  c : Bd n a.2.2.2.2.1
  cw : a.2.2.2.2.1.1 ≤ a.2.2.2.2.1.2.2.1 ∧ a.2.2.2.2.1.2.1 ≤ a.2.2.2.2.1.2.2.2
  l : Bd n a.2.2.2.2.2
theorem low_high_ok {n : Nat} {t : Tape} {s : Int} (g : Good n t) (hn : n < 100000000) (h1 : 1 ≤ s) (h2 : s ≤ 100000) : Ok (m_law_low_high t s) fun x => (-s ≤ x.1.1 ∧ x.1.1 ≤ s ∧ x.1.1 + 1 ≤ x.1.2 ∧ x.1.2 ≤ s + s) ∧ Good (n + 2) x.2 := by
  unfold m_law_low_high
  refine (ok_mul (P := fun z => z = 2 * s) (by decide) (by omega) rfl).bind fun v1 e1 => (ok_draw g (by omega) (by omega)).bind fun v2 ⟨a, b, g2⟩ => Ok.lt ((ok_draw g2 (by omega) (by omega)).bind fun v4 ⟨c, d, g4⟩ => Ok.ret ⟨?_, g4⟩)
  dsimp only
  omega
theorem loose_ok {n : Nat} {t : Tape} {s : Int} (g : Good n t) (hn : n < 10000000) (h1 : 1 ≤ s) (h2 : s ≤ 100000) : Ok (m_law_loose t s) fun x => Bd (s + s + s + s) x.1 ∧ Good (n + 5) x.2 := by
  unfold m_law_loose
  refine (low_high_ok g (by omega) h1 h2).bind fun v1 ⟨a, g1⟩ => (low_high_ok g1 (by omega) h1 h2).bind fun v2 ⟨b, g2⟩ => (ok_draw g2 (by omega) (by decide)).bind fun v3 ⟨c0, c1, g3⟩ => ?_
  have c1 : v3.1 < 4 := c1
  refine (ok_mul (P := fun z => z = 2 * v1.1.1) (by decide) (by omega) rfl).bind fun v4 e4 => (ok_mul (P := fun z => z = 2 * v2.1.1) (by decide) (by omega) rfl).bind fun v5 e5 => ?_
  refine (ok_div (P := fun z => z = v3.1 / 2) (by decide) (by decide) (Int.fdiv_eq_ediv_of_nonneg _ (by decide))).bind fun v6 e6 => ?_
  refine (ok_atI (P := fun z => z = v1.1.1 ∨ z = v1.1.2) (by omega) (by show v6 < 2; omega) fun x hx => ?_).bind fun v7 e7 => ?_
  · have := List.mem_of_getElem? hx
    simpa using this
  refine (ok_mul (P := fun z => z = 2 * v7) (by decide) (by omega) rfl).bind fun v8 e8 => ?_
  refine (ok_mod (P := fun m => 0 ≤ m ∧ m < 2) (by decide) fun m p q _ => ⟨p, q⟩).bind fun v9 ⟨e9, e9'⟩ => ?_
  refine (ok_atI (P := fun z => z = v2.1.1 ∨ z = v2.1.2) (by omega) (by show v9 < 2; omega) fun x hx => ?_).bind fun v10 e10 => ?_
  · have := List.mem_of_getElem? hx
    simpa using this
  refine (ok_mul (P := fun z => z = 2 * v10) (by decide) (by omega) rfl).bind fun v11 e11 => Ok.ret ⟨?_, g3⟩
  unfold Bd
  dsimp only
  omega
theorem sort2 {a b : Int} : sortI [a, b] = if a ≤ b then [a, b] else [b, a] := by
  refine (sortI_eq ?_ ?_).symm
  · split
    · exact List.Perm.refl _
    · exact List.Perm.swap ..
  · split <;> (simp; omega)
theorem ok_cons {α S : Type} {f : α → S → Option S} {x : α} {xs : List α} {s : S} {P Q : S → Prop} (h : Ok (f x s) P) (k : ∀ s', P s' → Ok (forS xs s' f) Q) : Ok (forS (x :: xs) s f) Q := Ok.bind h k
def Sd (n : Int) (s : List Int) : Prop := ∃ a b : Int, s = [a, b] ∧ -n ≤ a ∧ a ≤ b ∧ b ≤ n
theorem menu_ok {n : Nat} {t : Tape} {N lo hi sl sh : Int} (g : Good n t) (hn : n < 1000000) (hN : 0 ≤ N ∧ N < 2 ^ 90) (h1 : -N ≤ lo ∧ lo ≤ hi ∧ hi ≤ N) (h2 : -N ≤ sl ∧ sl ≤ N ∧ -N ≤ sh ∧ sh ≤ N) {sides : List (List Int)} (hs : sides.length < 10) {P : List (List Int) × Tape → Prop}
    (p : ∀ z, Sd (N + 2) z → ∀ t', Good (n + 3) t' → P (sides ++ [z], t')) :
    Ok (lt [lo, hi, sl, sh, sl - 2, sh + 2, sl + 2, sh - 2] fun menu => fdivR (hi - lo) 2 >>= fun v15 => m_law_draw t (v15 + 1) >>= fun v16 => mulR 2 v16.1 >>= fun v17 => catR menu [lo + v17] >>= fun v18 => m_law_pick v16.2 v18 >>= fun v19 => m_law_pick v19.2 v18 >>= fun v20 => pushR sides (sortI [v19.1, v20.1]) >>= fun v21 => some (v21.2, v20.2)) P := by
  refine Ok.lt ?_
  refine (ok_div (P := fun z => z = (hi - lo) / 2) (by decide) (by decide) (Int.fdiv_eq_ediv_of_nonneg _ (by decide))).bind fun v15 e15 => ?_
  refine (ok_draw g (by omega) (by omega)).bind fun v16 ⟨a, b, g16⟩ => ?_
  refine (ok_mul (P := fun z => z = 2 * v16.1) (by decide) (by omega) rfl).bind fun v17 e17 => ?_
  refine (ok_cat (P := fun z => z = [lo, hi, sl, sh, sl - 2, sh + 2, sl + 2, sh - 2, lo + v17]) (by show 9 ≤ 16000000; decide) rfl).bind fun v18 e18 => ?_
  have mem : ∀ x ∈ v18, -(N + 2) ≤ x ∧ x ≤ N + 2 := fun x hx => by
    rw [e18] at hx
    simp only [List.mem_cons, List.not_mem_nil, or_false] at hx
    omega
  have l18 : v18.length = 9 := by rw [e18]; rfl
  refine (ok_pick g16 (by omega) (by omega) (by omega)).bind fun v19 ⟨c, g19⟩ => (ok_pick g19 (by omega) (by omega) (by omega)).bind fun v20 ⟨d, g20⟩ => ?_
  refine (ok_push (P := fun z => z.2 = sides ++ [sortI [v19.1, v20.1]]) (by omega) rfl).bind fun v21 e21 => Ok.ret ?_
  rw [e21]
  have m1 := mem _ c
  have m2 := mem _ d
  refine p _ ?_ _ g20
  rw [sort2]
  split
  · exact ⟨_, _, rfl, m1.1, by omega, m2.2⟩
  · exact ⟨_, _, rfl, m2.1, by omega, m1.2⟩
theorem solid_ok {n : Nat} {t : Tape} {N : Int} {b s : IB} (g : Good n t) (hn : n < 100000) (hN : 0 ≤ N ∧ N < 2 ^ 90) (hb : Bd N b) (hw : b.1 + 2 ≤ b.2.2.1 ∧ b.2.1 + 2 ≤ b.2.2.2) (hs : Bd N s) :
    Ok (m_law_solid t b s) fun x => (Bd (N + 4) x.1 ∧ x.1.1 ≤ x.1.2.2.1 ∧ x.1.2.1 ≤ x.1.2.2.2) ∧ Good (n + 7) x.2 := by
  obtain ⟨⟨a1, a2⟩, ⟨b1, b2⟩, ⟨c1, c2⟩, ⟨d1, d2⟩⟩ := hb
  obtain ⟨⟨a3, a4⟩, ⟨b3, b4⟩, ⟨c3, c4⟩, ⟨d3, d4⟩⟩ := hs
  unfold m_law_solid
  refine Ok.bind (P := fun s1 => ∃ x y, s1.1 = [x, y] ∧ Sd (N + 2) x ∧ Sd (N + 2) y ∧ Good (n + 6) s1.2) ?_ ?_
  · refine ok_cons (P := fun s1 => ∃ x, s1.1 = [x] ∧ Sd (N + 2) x ∧ Good (n + 3) s1.2) ?_ fun s1 h1 => ?_
    · refine menu_ok (lo := b.1) (hi := b.2.2.1) (sl := s.1) (sh := s.2.2.1) g (by omega) hN (by omega) (by omega) (by show 0 < 10; decide) fun z hz t' g' => ?_
      exact ⟨z, rfl, hz, g'⟩
    · obtain ⟨x, e1, hx, g1⟩ := h1
      refine ok_cons (P := fun s1 => ∃ x y, s1.1 = [x, y] ∧ Sd (N + 2) x ∧ Sd (N + 2) y ∧ Good (n + 6) s1.2) ?_ fun s1 h1 => Ok.ret h1
      refine menu_ok (lo := b.2.1) (hi := b.2.2.2) (sl := s.2.1) (sh := s.2.2.2) g1 (by omega) hN (by omega) (by omega) (by rw [e1]; show 1 < 10; decide) fun z hz t' g' => ?_
      rw [e1]
      exact ⟨x, z, rfl, hx, hz, g'⟩
  · rintro ⟨sides, t1⟩ ⟨x, y, e1, ⟨xa, xb, rfl, x1, x2, x3⟩, ⟨ya, yb, rfl, y1, y2, y3⟩, g1⟩
    have e1 : sides = [[xa, xb], [ya, yb]] := e1
    have g1 : Good (n + 6) t1 := g1
    subst e1
    refine Ok.bind (P := fun s2 => ∃ xa xb ya yb : Int, s2.1 = [[xa, xb], [ya, yb]] ∧ (-(N + 4) ≤ xa ∧ xa ≤ xb ∧ xb ≤ N + 4) ∧ (-(N + 4) ≤ ya ∧ ya ≤ yb ∧ yb ≤ N + 4) ∧ Good (n + 7) s2.2) ?_ ?_
    · show Ok ((cond (decide (xa = xb)) (some (decide (ya = yb))) (some false)) >>= _) _
      refine Ok.bind (P := fun _ => True) (Ok.cond (fun _ => Ok.ret trivial) (fun _ => Ok.ret trivial)) fun c31 _ => Ok.cond (fun _ => ?_) (fun _ => ?_)
      · refine (ok_draw g1 (by omega) (by decide)).bind fun v32 ⟨p, q, g32⟩ => ?_
        have q : v32.1 < 2 := q
        obtain ⟨kk, t2⟩ := v32
        have q : kk < 2 := q
        have p : 0 ≤ kk := p
        rcases (show kk = 0 ∨ kk = 1 by omega) with rfl | rfl
        · exact Ok.ret ⟨xa, xb + 2, ya, yb, rfl, by omega, by omega, g32⟩
        · exact Ok.ret ⟨xa, xb, ya, yb + 2, rfl, by omega, by omega, g32⟩
      · exact Ok.ret ⟨xa, xb, ya, yb, rfl, by omega, by omega, g1.mono (by omega)⟩
    · rintro ⟨s2, t2⟩ ⟨xa, xb, ya, yb, e2, p, q, g2⟩
      have e2 : s2 = [[xa, xb], [ya, yb]] := e2
      subst e2
      refine Ok.ret ⟨⟨?_, ?_, ?_⟩, g2⟩
      · exact ⟨by dsimp only; omega, by dsimp only; omega, by dsimp only; omega, by dsimp only; omega⟩
      · exact p.2.1
      · exact q.2.1
theorem ask_ok {n : Nat} {t : Tape} (g : Good n t) (hn : n < 10000) : Ok (m_law_ask t) fun x => AskP 8000000 x.1 ∧ Good (n + 100) x.2 := by
  unfold m_law_ask
  refine (ok_pick g (by omega) (by decide) (by decide)).bind fun v1 ⟨h1, g1⟩ => ?_
  have h1 : 0 < v1.1 ∧ v1.1 ≤ 12 := by
    simp only [List.mem_cons, List.not_mem_nil, or_false] at h1
    omega
  refine Ok.bind (P := fun s2 => (0 < s2.1 ∧ s2.1 ≤ 999) ∧ (1 ≤ s2.2.1 ∧ s2.2.1 ≤ 100000) ∧ Good (n + 3) s2.2.2) ?_ ?_
  · refine (ok_draw g1 (by omega) (by decide)).bind fun v3 ⟨a, b, g3⟩ => Ok.cond (fun _ => ?_) (fun _ => ?_)
    · refine (ok_draw g3 (by omega) (by decide)).bind fun v4 ⟨a, b, g4⟩ => Ok.lt (Ok.ret ⟨?_, (show (1 : Int) ≤ 100000 ∧ (100000 : Int) ≤ 100000 by decide), g4⟩)
      have b : v4.1 < 999 := b
      dsimp only; omega
    · refine Ok.ret ⟨by dsimp only; omega, (show (1 : Int) ≤ 12 ∧ (12 : Int) ≤ 100000 by decide), g3.mono (by omega)⟩
  rintro ⟨unit, span, t2⟩ ⟨u, s, g2⟩
  have u : 0 < unit ∧ unit ≤ 999 := u
  have s : 1 ≤ span ∧ span ≤ 100000 := s
  have g2 : Good (n + 3) t2 := g2
  refine (low_high_ok g2 (by omega) s.1 s.2).bind fun v6 ⟨a6, g6⟩ => (low_high_ok g6 (by omega) s.1 s.2).bind fun v7 ⟨a7, g7⟩ => ?_
  refine (ok_mul (P := fun z => z = 2 * v6.1.1) (by decide) (by omega) rfl).bind fun v8 e8 => (ok_mul (P := fun z => z = 2 * v7.1.1) (by decide) (by omega) rfl).bind fun v9 e9 => (ok_mul (P := fun z => z = 2 * v6.1.2) (by decide) (by omega) rfl).bind fun v10 e10 => (ok_mul (P := fun z => z = 2 * v7.1.2) (by decide) (by omega) rfl).bind fun v11 e11 => Ok.lt (Ok.get rfl ?_)
  have hb : Bd 800000 (v8, v9, v10, v11) := by unfold Bd; dsimp only; omega
  have hw : v8 + 2 ≤ v10 ∧ v9 + 2 ≤ v11 := by omega
  refine (ok_pick g7 (by omega) (by decide) (by decide)).bind fun v14 ⟨h14, g14⟩ => ?_
  have h14 : v14.1 ∈ heads := h14
  refine (ok_draw g14 (by omega) (by omega)).bind fun v15 ⟨p, q, g15⟩ => ?_
  refine (ok_mul (P := fun z => z = 2 * v15.1) (by decide) (by omega) rfl).bind fun v16 e16 => ?_
  refine Ok.get (sw_eq h14 (by omega) (by omega)) ?_
  have hs : Bd 1600000 (swI (v8, v9, v10, v11) v14.1 v16) := sw_bd hb (by omega) (by omega)
  have hb' : Bd 1600000 (v8, v9, v10, v11) := by unfold Bd; dsimp only; omega
  refine (solid_ok g15 (by omega) ⟨by decide, by decide⟩ hb' hw hs).bind fun v18 ⟨⟨c1, c2, c3⟩, g18⟩ => ?_
  refine Ok.get (near_eq h14) ?_
  have c1' := c1
  obtain ⟨⟨p1, p2⟩, ⟨p3, p4⟩, ⟨p5, p6⟩, ⟨p7, p8⟩⟩ := c1
  have n1 : -3000000 ≤ nearI (v8, v9, v10, v11) v14.1 v18.1 ∧ nearI (v8, v9, v10, v11) v14.1 v18.1 ≤ 3000000 := by
    unfold nearI; dsimp only
    split
    · omega
    · split
      · omega
      · split <;> omega
  have n2 : -3000000 ≤ farI (v8, v9, v10, v11) v14.1 v18.1 ∧ farI (v8, v9, v10, v11) v14.1 v18.1 ≤ 3000000 := by
    unfold farI; dsimp only
    split
    · omega
    · split
      · omega
      · split <;> omega
  refine (ok_pick g18 (by omega) (by show 0 < 9; decide) (by show 9 < _; decide)).bind fun v20 ⟨h20, g20⟩ => Ok.lt ?_
  have h20 : -3000002 ≤ v20.1 ∧ v20.1 ≤ 3000002 := by
    simp only [List.mem_cons, List.not_mem_nil, or_false] at h20
    omega
  have m20 : 0 ≤ maxI 0 v20.1 ∧ maxI 0 v20.1 ≤ 3000002 := by unfold maxI; split <;> omega
  refine (ok_mul (P := fun z => z = 2 * unit) (by decide) (by show unit.natAbs < _; omega) rfl).bind fun v22 e22 => (loose_ok g20 (by omega) s.1 s.2).bind fun v23 ⟨l, g23⟩ => Ok.ret ⟨⟨?_, ?_, ?_, hw, h14, m20.1, ?_, ?_, ⟨c2, c3⟩, ?_⟩, g23.mono (by omega)⟩
  · show 0 < v22; omega
  · show v22 ≤ 1998; omega
  · unfold Bd; dsimp only; omega
  · show maxI 0 v20.1 ≤ _; omega
  · unfold Bd; dsimp only; omega
  · obtain ⟨⟨p1, p2⟩, ⟨p3, p4⟩, ⟨p5, p6⟩, ⟨p7, p8⟩⟩ := l
    unfold Bd; dsimp only; omega
abbrev uA : Ask → U := uTup (uRC uInt (uRC (uTup (uRC uInt (uRC uInt (uRC uInt (uR1 uInt))))) (uRC uStr (uRC uInt (uRC (uTup (uRC uInt (uRC uInt (uRC uInt (uR1 uInt))))) (uR1 (uTup (uRC uInt (uRC uInt (uRC uInt (uR1 uInt)))))))))))
theorem changed_ok {n : Nat} {t : Tape} {a : Ask} (g : Good n t) (hn : n < 10000) (h : AskP 8000000 a) : Ok (m_law_changed t a) fun x => AskP 32000000 x.1 ∧ Good (n + 100) x.2 := by
  obtain ⟨u, ⟨b1, b2, b3, b4⟩, hd, d, ⟨c1, c2, c3, c4⟩, ⟨l1, l2, l3, l4⟩⟩ := a
  obtain ⟨u0, u1, ⟨⟨p1, p2⟩, ⟨p3, p4⟩, ⟨p5, p6⟩, ⟨p7, p8⟩⟩, w, hh, d0, d1, ⟨⟨q1, q2⟩, ⟨q3, q4⟩, ⟨q5, q6⟩, ⟨q7, q8⟩⟩, cw, ⟨⟨r1, r2⟩, ⟨r3, r4⟩, ⟨r5, r6⟩, ⟨r7, r8⟩⟩⟩ := h
  dsimp only at u0 u1 p1 p2 p3 p4 p5 p6 p7 p8 w hh d0 d1 q1 q2 q3 q4 q5 q6 q7 q8 cw r1 r2 r3 r4 r5 r6 r7 r8
  have B : Bd 32000000 (b1, b2, b3, b4) := by unfold Bd; dsimp only; omega
  have C : Bd 32000000 (c1, c2, c3, c4) := by unfold Bd; dsimp only; omega
  have L : Bd 32000000 (l1, l2, l3, l4) := by unfold Bd; dsimp only; omega
  unfold m_law_changed
  refine (ok_draw g (by omega) (by decide)).bind fun v1 ⟨_, _, g1⟩ => Ok.cond (fun _ => ?_) (fun _ => Ok.cond (fun _ => ?_) (fun _ => Ok.cond (fun _ => ?_) (fun _ => ?_)))
  · refine Ok.get rfl (Ok.bind (P := fun _ => True) ?_ fun v3 _ => ?_)
    · unfold idxR
      rw [if_pos hh]; exact Ok.ret trivial
    refine Ok.get rfl (Ok.get rfl ((ok_draw g1 (by omega) (by decide)).bind fun v6 ⟨_, _, g6⟩ => ?_))
    refine (ok_mod (P := fun m => 0 ≤ m ∧ m < 4) (by decide) fun m p q _ => ⟨p, q⟩).bind fun v7 ⟨e7, e7'⟩ => ?_
    refine (ok_atI (P := fun z => z ∈ heads) e7 (by show v7 < 4; omega) fun x hx => List.mem_of_getElem? hx).bind fun v8 h8 => ?_
    refine Ok.get rfl (Ok.get rfl (Ok.ret ⟨?_, g6.mono (by omega)⟩))
    exact ⟨u0, u1, B, w, h8, d0, by show d ≤ _; omega, C, cw, L⟩
  · refine Ok.get rfl ((ok_draw g1 (by omega) (by decide)).bind fun v6 ⟨e6, e6', g6⟩ => ?_)
    have e6' : v6.1 < 12 := e6'
    refine (ok_mul (P := fun z => z = 2 * v6.1) (by decide) (by omega) rfl).bind fun v7 e7 => ?_
    refine (ok_pick g6 (by omega) (by show 0 < 3; decide) (by show 3 < _; decide)).bind fun v8 ⟨h8, g8⟩ => ?_
    have h8 : -2 ≤ v8.1 ∧ v8.1 ≤ 24 := by
      simp only [List.mem_cons, List.not_mem_nil, or_false] at h8
      omega
    have m : 0 ≤ maxI 0 (d + v8.1) ∧ maxI 0 (d + v8.1) ≤ 32000000 := by unfold maxI; split <;> omega
    refine Ok.get rfl (Ok.get rfl (Ok.ret ⟨?_, g8.mono (by omega)⟩))
    exact ⟨u0, u1, B, w, hh, m.1, m.2, C, cw, L⟩
  · refine Ok.get rfl (Ok.get (sw_eq hh d0 (by show d.natAbs < _; omega)) ?_)
    have B1 : Bd 8000000 (b1, b2, b3, b4) := by unfold Bd; dsimp only; omega
    have B2 : Bd 16000000 (b1, b2, b3, b4) := by unfold Bd; dsimp only; omega
    refine (solid_ok g1 (by omega) (N := 16000000) ⟨by decide, by decide⟩ B2 w (sw_bd B1 d0 d1)).bind fun v18 ⟨⟨e1, e2, e3⟩, g18⟩ => ?_
    obtain ⟨⟨s1, s2, s3, s4⟩, t18⟩ := v18
    obtain ⟨⟨p1, p2⟩, ⟨p3, p4⟩, ⟨p5, p6⟩, ⟨p7, p8⟩⟩ := e1
    refine Ok.get rfl (Ok.get rfl (Ok.ret ⟨?_, g18.mono (by omega)⟩))
    exact ⟨u0, u1, B, w, hh, d0, by show d ≤ _; omega, by unfold Bd; dsimp only at *; omega, ⟨e2, e3⟩, L⟩
  · refine Ok.get rfl (Ok.get (go_eq (by decide) (by decide)) (Ok.get (go_eq (by decide) (by decide)) ?_))
    refine (ok_pick g1 (by omega) (by show 0 < 3; decide) (by show 3 < _; decide)).bind fun v25 ⟨h25, g25⟩ => ?_
    obtain ⟨⟨s1, s2, s3, s4⟩, t25⟩ := v25
    have key : Bd 32000000 (s1, s2, s3, s4) ∧ s1 + 2 ≤ s3 ∧ s2 + 2 ≤ s4 := by
      simp only [List.mem_cons, List.not_mem_nil, or_false] at h25
      rcases h25 with e | e | e
      · have e : (s1, s2, s3, s4) = (b1, b2 + 2, b3, b4 + 2) := e
        simp only [Prod.mk.injEq] at e
        unfold Bd; dsimp only; omega
      · have e : (s1, s2, s3, s4) = (b1 - 2, b2, b3 - 2, b4) := e
        simp only [Prod.mk.injEq] at e
        unfold Bd; dsimp only; omega
      · have e : (s1, s2, s3, s4) = (b1, b2, b3 + 2, b4) := e
        simp only [Prod.mk.injEq] at e
        unfold Bd; dsimp only; omega
    refine Ok.get rfl (Ok.get rfl (Ok.ret ⟨?_, g25.mono (by omega)⟩))
    exact ⟨u0, u1, key.1, key.2, hh, d0, by show d ≤ _; omega, C, cw, L⟩
theorem same_B (b : Bool) : m_law_same 6 (uBool b) (uBool b) = some true := same_ok 6 _ trivial
theorem plain_row (u : Int) (b : IB) : Plain 6 (uSeq uF (row u b)) := by
  refine ⟨by show 4 ≤ 8000000; decide, fun x hx => ?_⟩
  have hx : x ∈ [uF (lowV b.1 u), uF (lowV b.2.1 u), uF (lowV b.2.2.1 u), uF (lowV b.2.2.2 u)] := hx
  have pf : ∀ p : Int × Int, Plain 5 (uF p) := fun p => ⟨by show 2 ≤ 8000000; decide, fun y hy => by
    have hy : y ∈ [U.int p.1, U.int p.2] := hy
    simp only [List.mem_cons, List.not_mem_nil, or_false] at hy
    rcases hy with rfl | rfl <;> exact trivial⟩
  simp only [List.mem_cons, List.not_mem_nil, or_false] at hx
  rcases hx with rfl | rfl | rfl | rfl <;> exact pf _
theorem same_row (u : Int) (b : IB) : m_law_same 6 (uFB (frB u b)) (uSeq uF (row u b)) = some true := same_ok 6 _ (plain_row u b)
theorem right_ok {a : Ask} {k : Int} (h : AskP 32000000 a) (hk : k = 0 ∨ k = 1 ∨ k = 2) : Ok (m_law_right a k) fun v => v = true := by
  obtain ⟨u, b, hd, d, c, l⟩ := a
  obtain ⟨u0, u1, hb, w, hh, d0, d1, hc, cw, hl⟩ := h
  dsimp only at u0 u1 hb w hh d0 d1 hc cw hl
  have bu : B100 u := by show _ < _; omega
  have bd : B100 d := by show _ < _; omega
  have sb := sw_bd (h := hd) hb d0 d1
  have e1 : m_law_low d u = some (lowV d u) := by rw [low_eq, lowR_eq (by omega) (b100_250 bu)]
  have ws : wideI (swI b hd d) = true := by
    obtain ⟨b1, b2, b3, b4⟩ := b
    dsimp only at w
    unfold wideI
    simp only [Bool.and_eq_true, decide_eq_true_eq]
    rcases head_cases hh with rfl | rfl | rfl | rfl
    · show b1 < b3 ∧ b2 < b4 + d; omega
    · show b1 < b3 + d ∧ b2 < b4; omega
    · show b1 < b3 ∧ b2 - d < b4; omega
    · show b1 - d < b3 ∧ b2 < b4; omega
  unfold m_law_right
  refine Ok.get e1 (Ok.cond (fun _ => ?_) (fun hk0 => ?_))
  · refine Ok.get (given_eq u0 bu) (Ok.get dFB_row (Ok.get (given_eq u0 bu) (Ok.get dFB_row ?_)))
    refine Ok.get (clear_eq u0 bu (hb.b (by decide)) bd (sb.b (by decide)) (hc.b (by decide)) hh ws) (Ok.get (lclear_eq (by decide) hb hc d1 w cw d0 hh) (Ok.get (same_B _) (Ok.ret rfl)))
  refine Ok.bind (P := fun o => ∃ s', o = .nx s' ∧ True) (ok_forF (fun _ => True) [l, b] () trivial fun x s hx _ => ?_) fun o ⟨s', e, _⟩ => by subst e; exact Ok.ret rfl
  have hx : BdB x := by
    simp only [List.mem_cons, List.not_mem_nil, or_false] at hx
    rcases hx with rfl | rfl
    · exact hl.b (by decide)
    · exact hb.b (by decide)
  refine Ok.get (given_eq u0 bu) (Ok.bind (P := fun c => c = false) (Ok.cond (fun _ => ?_) (fun _ => Ok.ret rfl)) fun c17 e17 => ?_)
  · exact Ok.get dFB_row (Ok.get (gob_eq u0 bu hx bd hh) (Ok.get (go_eq hh (b100_250 bd)) (Ok.get (given_eq u0 bu) (Ok.get (same_row _ _) (Ok.ret rfl)))))
  subst e17
  refine Ok.bind (P := fun c => c = false) (Ok.cond (fun _ => ?_) (fun _ => Ok.ret rfl)) fun c17 e17 => ?_
  · exact Ok.get dFB_row (Ok.get (swb_eq u0 bu hx bd hh) (Ok.get (sw_eq hh d0 (b100_250 bd)) (Ok.get (given_eq u0 bu) (Ok.get (same_row _ _) (Ok.ret rfl)))))
  subst e17
  exact Ok.ret ⟨(), rfl, trivial⟩
theorem heads_same : m_law_same 6 ((uSeq uStr) (["north", "east", "south", "west"] : List Str)) ((uTup (uRC uStr (uRC uStr (uRC uStr (uR1 uStr))))) (("north" : Str), ("east" : Str), ("south" : Str), ("west" : Str))) = some true :=
  same_ok 6 (uSeq uStr heads) ⟨by show 4 ≤ 8000000; decide, fun x hx => by
    have hx : x ∈ [U.str "north", U.str "east", U.str "south", U.str "west"] := hx
    simp only [List.mem_cons, List.not_mem_nil, or_false] at hx
    rcases hx with rfl | rfl | rfl | rfl <;> exact trivial⟩
theorem AskP.up {a : Ask} (h : AskP 8000000 a) : AskP 32000000 a := by
  obtain ⟨u, ⟨b1, b2, b3, b4⟩, hd, d, ⟨c1, c2, c3, c4⟩, ⟨l1, l2, l3, l4⟩⟩ := a
  obtain ⟨u0, u1, ⟨⟨p1, p2⟩, ⟨p3, p4⟩, ⟨p5, p6⟩, ⟨p7, p8⟩⟩, w, hh, d0, d1, ⟨⟨q1, q2⟩, ⟨q3, q4⟩, ⟨q5, q6⟩, ⟨q7, q8⟩⟩, cw, ⟨⟨r1, r2⟩, ⟨r3, r4⟩, ⟨r5, r6⟩, ⟨r7, r8⟩⟩⟩ := h
  dsimp only at u0 u1 p1 p2 p3 p4 p5 p6 p7 p8 w hh d0 d1 q1 q2 q3 q4 q5 q6 q7 q8 cw r1 r2 r3 r4 r5 r6 r7 r8
  exact ⟨u0, u1, by unfold Bd; dsimp only; omega, w, hh, d0, by show d ≤ _; omega, by unfold Bd; dsimp only; omega, cw, by unfold Bd; dsimp only; omega⟩
theorem law_ok (ns : List Int) (_ : ns.length ≤ 63) : m_law ns = some true := by
  have : Ok (m_law ns) fun v => v = true := by
    unfold m_law
    refine (ok_tape ns).bind fun t g => (ask_ok g (by decide)).bind fun v2 ⟨h2, g2⟩ => (changed_ok g2 (by decide) h2).bind fun v3 ⟨h3, g3⟩ => Ok.lt ?_
    refine (ok_turns g3 (by decide) (by decide) (by decide)).bind fun v5 ⟨h5, g5⟩ => ?_
    refine Ok.bind (P := fun o => ∃ s', o = .nx s' ∧ True) (ok_forF (fun _ => True) v5.1 v5.2 trivial fun x s hx _ => ?_) fun o ⟨s', e, _⟩ => by subst e; exact Ok.ret rfl
    obtain ⟨k0, k1⟩ := h5 x hx
    refine Ok.bind (P := fun c => c = false) (Ok.cond (fun _ => Ok.get heads_same (Ok.ret rfl)) (fun _ => Ok.ret rfl)) fun c9 e9 => ?_
    subst e9
    refine Ok.bind (P := fun o => ∃ s', o = .nx s' ∧ True) (ok_forF (fun _ => True) [v2.1, v3.1, v2.1] () trivial fun y s hy _ => ?_) fun o ⟨s', e, _⟩ => by subst e; exact Ok.ret ⟨s, rfl, trivial⟩
    have hy : AskP 32000000 y := by
      simp only [List.mem_cons, List.not_mem_nil, or_false] at hy
      rcases hy with rfl | rfl | rfl
      · exact h2.up
      · exact h3
      · exact h2.up
    refine Ok.bind (P := fun c => c = false) (Ok.cond (fun q => ?_) (fun _ => Ok.ret rfl)) fun c9 e9 => by subst e9; exact Ok.ret ⟨(), rfl, trivial⟩
    have q := of_decide_eq_true q
    exact (right_ok hy (by omega)).bind fun v e => by subst e; exact Ok.ret rfl
  obtain ⟨v, e, rfl⟩ := this
  exact e
end K39

set_option maxHeartbeats 0
namespace K39
open PySem PySem.Spec PyProof.Rows L2 Ty
def d_lowest : He.DefD := ⟨("lowest", none), "lowest", "lowest", defArgs st_lowest, defBody st_lowest, defScope st_lowest, [], []⟩
def d_plus : He.DefD := ⟨("plus", none), "plus", "plus", defArgs st_plus, defBody st_plus, defScope st_plus, [], []⟩
def d_minus : He.DefD := ⟨("minus", none), "minus", "minus", defArgs st_minus, defBody st_minus, defScope st_minus, [], []⟩
def d_is_less : He.DefD := ⟨("is_less", none), "is_less", "is_less", defArgs st_is_less, defBody st_is_less, defScope st_is_less, [], []⟩
def d_is_wide_box : He.DefD := ⟨("is_wide_box", none), "is_wide_box", "is_wide_box", defArgs st_is_wide_box, defBody st_is_wide_box, defScope st_is_wide_box, [], []⟩
def d_boxes_lap : He.DefD := ⟨("boxes_lap", none), "boxes_lap", "boxes_lap", defArgs st_boxes_lap, defBody st_boxes_lap, defScope st_boxes_lap, [], []⟩
def d_go_box : He.DefD := ⟨("go_box", none), "go_box", "go_box", defArgs st_go_box, defBody st_go_box, defScope st_go_box, [], []⟩
def d_with_front : He.DefD := ⟨("with_front", none), "with_front", "with_front", defArgs st_with_front, defBody st_with_front, defScope st_with_front, [], []⟩
def d_swept_box : He.DefD := ⟨("swept_box", none), "swept_box", "swept_box", defArgs st_swept_box, defBody st_swept_box, defScope st_swept_box, [], []⟩
def d_passes_clear : He.DefD := ⟨("passes_clear", none), "passes_clear", "passes_clear", defArgs st_passes_clear, defBody st_passes_clear, defScope st_passes_clear, [], []⟩
def d__law_tape : He.DefD := ⟨("_law_tape", none), "_law_tape", "_law_tape", defArgs st__law_tape, defBody st__law_tape, defScope st__law_tape, [], []⟩
def d__law_draw : He.DefD := ⟨("_law_draw", none), "_law_draw", "_law_draw", defArgs st__law_draw, defBody st__law_draw, defScope st__law_draw, [], []⟩
def d__law_pick : He.DefD := ⟨("_law_pick", none), "_law_pick", "_law_pick", defArgs st__law_pick, defBody st__law_pick, defScope st__law_pick, [], []⟩
def d__law_turns : He.DefD := ⟨("_law_turns", none), "_law_turns", "_law_turns", defArgs st__law_turns, defBody st__law_turns, defScope st__law_turns, [], []⟩
def d__law_put : He.DefD := ⟨("_law_put", none), "_law_put", "_law_put", defArgs st__law_put, defBody st__law_put, defScope st__law_put, [], []⟩
def d__law_same : He.DefD := ⟨("_law_same", none), "_law_same", "_law_same", defArgs st__law_same, defBody st__law_same, defScope st__law_same, [], []⟩
def d__law_low : He.DefD := ⟨("_law_low", none), "_law_low", "_law_low", defArgs st__law_low, defBody st__law_low, defScope st__law_low, [], []⟩
def d__law_given : He.DefD := ⟨("_law_given", none), "_law_given", "_law_given", defArgs st__law_given, defBody st__law_given, defScope st__law_given, [], []⟩
def d__law_point : He.DefD := ⟨("_law_point", none), "_law_point", "_law_point", defArgs st__law_point, defBody st__law_point, defScope st__law_point, [], []⟩
def d__law_covered : He.DefD := ⟨("_law_covered", none), "_law_covered", "_law_covered", defArgs st__law_covered, defBody st__law_covered, defScope st__law_covered, [], []⟩
def d__law_inner : He.DefD := ⟨("_law_inner", none), "_law_inner", "_law_inner", defArgs st__law_inner, defBody st__law_inner, defScope st__law_inner, [], []⟩
def d__law_cuts : He.DefD := ⟨("_law_cuts", none), "_law_cuts", "_law_cuts", defArgs st__law_cuts, defBody st__law_cuts, defScope st__law_cuts, [], []⟩
def d__law_few : He.DefD := ⟨("_law_few", none), "_law_few", "_law_few", defArgs st__law_few, defBody st__law_few, defScope st__law_few, [], []⟩
def d__law_lap : He.DefD := ⟨("_law_lap", none), "_law_lap", "_law_lap", defArgs st__law_lap, defBody st__law_lap, defScope st__law_lap, [], []⟩
def d__law_heading : He.DefD := ⟨("_law_heading", none), "_law_heading", "_law_heading", defArgs st__law_heading, defBody st__law_heading, defScope st__law_heading, [], []⟩
def d__law_m_go : He.DefD := ⟨("_law_m_go", none), "_law_m_go", "_law_m_go", defArgs st__law_m_go, defBody st__law_m_go, defScope st__law_m_go, [], []⟩
def d__law_m_swept : He.DefD := ⟨("_law_m_swept", none), "_law_m_swept", "_law_m_swept", defArgs st__law_m_swept, defBody st__law_m_swept, defScope st__law_m_swept, [], []⟩
def d__law_heads : He.DefD := ⟨("_law_heads", none), "_law_heads", "_law_heads", defArgs st__law_heads, defBody st__law_heads, defScope st__law_heads, [], []⟩
def d__law_low_high : He.DefD := ⟨("_law_low_high", none), "_law_low_high", "_law_low_high", defArgs st__law_low_high, defBody st__law_low_high, defScope st__law_low_high, [], []⟩
def d__law_loose : He.DefD := ⟨("_law_loose", none), "_law_loose", "_law_loose", defArgs st__law_loose, defBody st__law_loose, defScope st__law_loose, [], []⟩
def d__law_solid : He.DefD := ⟨("_law_solid", none), "_law_solid", "_law_solid", defArgs st__law_solid, defBody st__law_solid, defScope st__law_solid, [], []⟩
def d__law_near_far : He.DefD := ⟨("_law_near_far", none), "_law_near_far", "_law_near_far", defArgs st__law_near_far, defBody st__law_near_far, defScope st__law_near_far, [], []⟩
def d__law_ask : He.DefD := ⟨("_law_ask", none), "_law_ask", "_law_ask", defArgs st__law_ask, defBody st__law_ask, defScope st__law_ask, [], []⟩
def d__law_changed : He.DefD := ⟨("_law_changed", none), "_law_changed", "_law_changed", defArgs st__law_changed, defBody st__law_changed, defScope st__law_changed, [], []⟩
def d__law_clear : He.DefD := ⟨("_law_clear", none), "_law_clear", "_law_clear", defArgs st__law_clear, defBody st__law_clear, defScope st__law_clear, [], []⟩
def d__law_right : He.DefD := ⟨("_law_right", none), "_law_right", "_law_right", defArgs st__law_right, defBody st__law_right, defScope st__law_right, [], []⟩
def d_law : He.DefD := ⟨("law", none), "law", "law", defArgs st_law, defBody st_law, defScope st_law, [], []⟩
def fn : List He.DefD := [d_lowest, d_plus, d_minus, d_is_less, d_is_wide_box, d_boxes_lap, d_go_box, d_with_front, d_swept_box, d_passes_clear, d__law_tape, d__law_draw, d__law_pick, d__law_turns, d__law_put, d__law_same, d__law_low, d__law_given, d__law_point, d__law_covered, d__law_inner, d__law_cuts, d__law_few, d__law_lap, d__law_heading, d__law_m_go, d__law_m_swept, d__law_heads, d__law_low_high, d__law_loose, d__law_solid, d__law_near_far, d__law_ask, d__law_changed, d__law_clear, d__law_right, d_law]
def fa : List He.Fa := [.glo "lowest", .glo "plus", .glo "minus", .glo "is_less", .glo "is_wide_box", .glo "boxes_lap", .glo "go_box", .glo "with_front", .glo "swept_box", .glo "passes_clear", .glo "_law_tape", .glo "_law_draw", .glo "_law_pick", .glo "_law_turns", .glo "_law_put", .glo "_law_same", .glo "_law_low", .glo "_law_given", .glo "_law_point", .glo "_law_covered", .glo "_law_inner", .glo "_law_cuts", .glo "_law_few", .glo "_law_lap", .glo "_law_heading", .glo "_law_m_go", .glo "_law_m_swept", .glo "_law_heads", .glo "_law_low_high", .glo "_law_loose", .glo "_law_solid", .glo "_law_near_far", .glo "_law_ask", .glo "_law_changed", .glo "_law_clear", .glo "_law_right", .glo "law", .free "abs", .free "bool", .free "int", .free "isinstance", .free "len", .free "list", .free "max", .free "min", .free "range", .free "set", .free "sorted", .free "str", .free "tuple", .glo "FRONTS", .glo "HEADINGS"]
def ts : List He.Tab := [(fun K => He.ga K "FRONTS", ["north", "east", "south", "west"])]
def ex (K : Frag) : Bool := bltB K "gcd" "math.gcd" && He.valsB K (He.ga K "FRONTS") (([("north", 3), ("east", 2), ("south", 1), ("west", 0)] : List (Str × Int)).map fun p => (p.1, He.Dv.int p.2)) && He.tupB K "HEADINGS" [.str "north", .str "east", .str "south", .str "west"] && tupO K "HEADINGS"
abbrev R : PySem.W.OpenRow := PySem.W.OpenLaw.row PySem.Challenge.rw_wherehouse_k39_boxes_that_go_and_pass_cl
abbrev hk : PySem.W.Hook := He.hookX 4 fa fn ts [] ex
def ob (s : PySem.W.SharedT) : He.AlX := He.obsX 4 fa fn ts [] ex (HandSHeadRun.getT s)
theorem ob_eq (s : PySem.W.SharedT) : ob s = hk.obs s.abs := He.obsX_eq (HandSHeadRun.getT_eq s)
def loose0 : List Str := ["lowest", "plus", "minus", "is_less", "is_wide_box", "boxes_lap", "go_box", "with_front", "swept_box", "passes_clear", "_law_tape", "_law_draw", "_law_pick", "_law_turns", "_law_put", "_law_same", "_law_low", "_law_given", "_law_point", "_law_covered", "_law_inner", "_law_cuts", "_law_few", "_law_lap", "_law_heading", "_law_m_go", "_law_m_swept", "_law_heads", "_law_low_high", "_law_loose"]
def loose1 : List Str := ["_law_solid", "_law_near_far", "_law_ask", "_law_changed", "_law_clear", "_law_right", "HEADINGS", "FRONTS"]
def loose : List Str := loose0 ++ loose1
theorem run (w : World) : HandSHeadRun.RunEqI R (PySem.W.view R.prog [0, 43]) hk ob 2000 loose w := by
  exact PySem.W.byRow2 "special-get-raises" (P := fun w => HandSHeadRun.RunEqI R (PySem.W.view R.prog [0, 43]) hk ob 2000 loose w) (fun w => by delta HandSHeadRun.RunEqI; kernel_rfl) (fun w => by delta HandSHeadRun.RunEqI; kernel_rfl) w
theorem facts {P : Program} {w : World} {K : Frag} {h : Heap} {mg : Str → Option Value} {f : Addr} (X : K.In h) (G : h.Ns mainGlobals mg) (hfa : mg ("law" : Str) = some (.ref f)) (c : He.SaysX fa fn ts [] ex w h K) :
    ∃ fd : FuncData, (∀ (s : Shared) (v : Value), BindsTo s fd ⟨[v], []⟩ [("script", v)]) ∧ ∀ base : Heap, K.In base → base.Ns mainGlobals mg → FnOk P w K mg base CX0 9 f fd ["script"] (spP K (tc1 cScr) (fun x => m_law x) cBool) := by
  obtain ⟨fd_lowest, D_lowest⟩ := c.t.d.def_ 0 (d := d_lowest) rfl
  obtain ⟨fd_plus, D_plus⟩ := c.t.d.def_ 1 (d := d_plus) rfl
  obtain ⟨fd_minus, D_minus⟩ := c.t.d.def_ 2 (d := d_minus) rfl
  obtain ⟨fd_is_less, D_is_less⟩ := c.t.d.def_ 3 (d := d_is_less) rfl
  obtain ⟨fd_is_wide_box, D_is_wide_box⟩ := c.t.d.def_ 4 (d := d_is_wide_box) rfl
  obtain ⟨fd_boxes_lap, D_boxes_lap⟩ := c.t.d.def_ 5 (d := d_boxes_lap) rfl
  obtain ⟨fd_go_box, D_go_box⟩ := c.t.d.def_ 6 (d := d_go_box) rfl
  obtain ⟨fd_with_front, D_with_front⟩ := c.t.d.def_ 7 (d := d_with_front) rfl
  obtain ⟨fd_swept_box, D_swept_box⟩ := c.t.d.def_ 8 (d := d_swept_box) rfl
  obtain ⟨fd_passes_clear, D_passes_clear⟩ := c.t.d.def_ 9 (d := d_passes_clear) rfl
  obtain ⟨fd__law_tape, D__law_tape⟩ := c.t.d.def_ 10 (d := d__law_tape) rfl
  obtain ⟨fd__law_draw, D__law_draw⟩ := c.t.d.def_ 11 (d := d__law_draw) rfl
  obtain ⟨fd__law_pick, D__law_pick⟩ := c.t.d.def_ 12 (d := d__law_pick) rfl
  obtain ⟨fd__law_turns, D__law_turns⟩ := c.t.d.def_ 13 (d := d__law_turns) rfl
  obtain ⟨fd__law_put, D__law_put⟩ := c.t.d.def_ 14 (d := d__law_put) rfl
  obtain ⟨fd__law_same, D__law_same⟩ := c.t.d.def_ 15 (d := d__law_same) rfl
  obtain ⟨fd__law_low, D__law_low⟩ := c.t.d.def_ 16 (d := d__law_low) rfl
  obtain ⟨fd__law_given, D__law_given⟩ := c.t.d.def_ 17 (d := d__law_given) rfl
  obtain ⟨fd__law_point, D__law_point⟩ := c.t.d.def_ 18 (d := d__law_point) rfl
  obtain ⟨fd__law_covered, D__law_covered⟩ := c.t.d.def_ 19 (d := d__law_covered) rfl
  obtain ⟨fd__law_inner, D__law_inner⟩ := c.t.d.def_ 20 (d := d__law_inner) rfl
  obtain ⟨fd__law_cuts, D__law_cuts⟩ := c.t.d.def_ 21 (d := d__law_cuts) rfl
  obtain ⟨fd__law_few, D__law_few⟩ := c.t.d.def_ 22 (d := d__law_few) rfl
  obtain ⟨fd__law_lap, D__law_lap⟩ := c.t.d.def_ 23 (d := d__law_lap) rfl
  obtain ⟨fd__law_heading, D__law_heading⟩ := c.t.d.def_ 24 (d := d__law_heading) rfl
  obtain ⟨fd__law_m_go, D__law_m_go⟩ := c.t.d.def_ 25 (d := d__law_m_go) rfl
  obtain ⟨fd__law_m_swept, D__law_m_swept⟩ := c.t.d.def_ 26 (d := d__law_m_swept) rfl
  obtain ⟨fd__law_heads, D__law_heads⟩ := c.t.d.def_ 27 (d := d__law_heads) rfl
  obtain ⟨fd__law_low_high, D__law_low_high⟩ := c.t.d.def_ 28 (d := d__law_low_high) rfl
  obtain ⟨fd__law_loose, D__law_loose⟩ := c.t.d.def_ 29 (d := d__law_loose) rfl
  obtain ⟨fd__law_solid, D__law_solid⟩ := c.t.d.def_ 30 (d := d__law_solid) rfl
  obtain ⟨fd__law_near_far, D__law_near_far⟩ := c.t.d.def_ 31 (d := d__law_near_far) rfl
  obtain ⟨fd__law_ask, D__law_ask⟩ := c.t.d.def_ 32 (d := d__law_ask) rfl
  obtain ⟨fd__law_changed, D__law_changed⟩ := c.t.d.def_ 33 (d := d__law_changed) rfl
  obtain ⟨fd__law_clear, D__law_clear⟩ := c.t.d.def_ 34 (d := d__law_clear) rfl
  obtain ⟨fd__law_right, D__law_right⟩ := c.t.d.def_ 35 (d := d__law_right) rfl
  obtain ⟨fd_law, D_law⟩ := c.t.d.def_ 36 (d := d_law) rfl
  have g_lowest := He.glo_ok X G (c.t.d.fact 0 (f := .glo "lowest") rfl)
  have g_plus := He.glo_ok X G (c.t.d.fact 1 (f := .glo "plus") rfl)
  have g_minus := He.glo_ok X G (c.t.d.fact 2 (f := .glo "minus") rfl)
  have g_is_less := He.glo_ok X G (c.t.d.fact 3 (f := .glo "is_less") rfl)
  have g_is_wide_box := He.glo_ok X G (c.t.d.fact 4 (f := .glo "is_wide_box") rfl)
  have g_boxes_lap := He.glo_ok X G (c.t.d.fact 5 (f := .glo "boxes_lap") rfl)
  have g_go_box := He.glo_ok X G (c.t.d.fact 6 (f := .glo "go_box") rfl)
  have g_with_front := He.glo_ok X G (c.t.d.fact 7 (f := .glo "with_front") rfl)
  have g_swept_box := He.glo_ok X G (c.t.d.fact 8 (f := .glo "swept_box") rfl)
  have g_passes_clear := He.glo_ok X G (c.t.d.fact 9 (f := .glo "passes_clear") rfl)
  have g__law_tape := He.glo_ok X G (c.t.d.fact 10 (f := .glo "_law_tape") rfl)
  have g__law_draw := He.glo_ok X G (c.t.d.fact 11 (f := .glo "_law_draw") rfl)
  have g__law_pick := He.glo_ok X G (c.t.d.fact 12 (f := .glo "_law_pick") rfl)
  have g__law_turns := He.glo_ok X G (c.t.d.fact 13 (f := .glo "_law_turns") rfl)
  have g__law_put := He.glo_ok X G (c.t.d.fact 14 (f := .glo "_law_put") rfl)
  have g__law_same := He.glo_ok X G (c.t.d.fact 15 (f := .glo "_law_same") rfl)
  have g__law_low := He.glo_ok X G (c.t.d.fact 16 (f := .glo "_law_low") rfl)
  have g__law_given := He.glo_ok X G (c.t.d.fact 17 (f := .glo "_law_given") rfl)
  have g__law_point := He.glo_ok X G (c.t.d.fact 18 (f := .glo "_law_point") rfl)
  have g__law_covered := He.glo_ok X G (c.t.d.fact 19 (f := .glo "_law_covered") rfl)
  have g__law_inner := He.glo_ok X G (c.t.d.fact 20 (f := .glo "_law_inner") rfl)
  have g__law_cuts := He.glo_ok X G (c.t.d.fact 21 (f := .glo "_law_cuts") rfl)
  have g__law_few := He.glo_ok X G (c.t.d.fact 22 (f := .glo "_law_few") rfl)
  have g__law_lap := He.glo_ok X G (c.t.d.fact 23 (f := .glo "_law_lap") rfl)
  have g__law_heading := He.glo_ok X G (c.t.d.fact 24 (f := .glo "_law_heading") rfl)
  have g__law_m_go := He.glo_ok X G (c.t.d.fact 25 (f := .glo "_law_m_go") rfl)
  have g__law_m_swept := He.glo_ok X G (c.t.d.fact 26 (f := .glo "_law_m_swept") rfl)
  have g__law_heads := He.glo_ok X G (c.t.d.fact 27 (f := .glo "_law_heads") rfl)
  have g__law_low_high := He.glo_ok X G (c.t.d.fact 28 (f := .glo "_law_low_high") rfl)
  have g__law_loose := He.glo_ok X G (c.t.d.fact 29 (f := .glo "_law_loose") rfl)
  have g__law_solid := He.glo_ok X G (c.t.d.fact 30 (f := .glo "_law_solid") rfl)
  have g__law_near_far := He.glo_ok X G (c.t.d.fact 31 (f := .glo "_law_near_far") rfl)
  have g__law_ask := He.glo_ok X G (c.t.d.fact 32 (f := .glo "_law_ask") rfl)
  have g__law_changed := He.glo_ok X G (c.t.d.fact 33 (f := .glo "_law_changed") rfl)
  have g__law_clear := He.glo_ok X G (c.t.d.fact 34 (f := .glo "_law_clear") rfl)
  have g__law_right := He.glo_ok X G (c.t.d.fact 35 (f := .glo "_law_right") rfl)
  have e := hfa.symm.trans (He.glo_ok X G (c.t.d.fact 36 (f := .glo "law") rfl))
  cases e
  have m := c.more
  simp only [ex, Bool.and_eq_true] at m
  obtain ⟨⟨⟨x0, x1⟩, x2⟩, x3⟩ := m
  have T : Txt w K mg := ⟨He.free_ok X G (c.t.d.fact 37 (f := .free "abs") rfl), He.free_ok X G (c.t.d.fact 38 (f := .free "bool") rfl), He.free_ok X G (c.t.d.fact 39 (f := .free "int") rfl), He.free_ok X G (c.t.d.fact 40 (f := .free "isinstance") rfl), He.free_ok X G (c.t.d.fact 41 (f := .free "len") rfl), He.free_ok X G (c.t.d.fact 42 (f := .free "list") rfl), He.free_ok X G (c.t.d.fact 43 (f := .free "max") rfl), He.free_ok X G (c.t.d.fact 44 (f := .free "min") rfl), He.free_ok X G (c.t.d.fact 45 (f := .free "range") rfl), He.free_ok X G (c.t.d.fact 46 (f := .free "set") rfl), He.free_ok X G (c.t.d.fact 47 (f := .free "sorted") rfl), He.free_ok X G (c.t.d.fact 48 (f := .free "str") rfl), He.free_ok X G (c.t.d.fact 49 (f := .free "tuple") rfl), bltB_ok X G x0, kdI_ok X G (c.t.d.fact 50 (f := .glo "FRONTS") rfl) (c.t.tab 0) x1, tupO_ok X G (c.t.d.fact 51 (f := .glo "HEADINGS") rfl) (fun W => He.tupB_ok x2 W) x3⟩
  refine ⟨fd_law, fun s v => FunD.bindsA (ps := ["script"]) D_law (fun _ _ _ _ _ _ us hl => match us, hl with | [_], _ => rfl) s [v] rfl, fun base _ _ => ?_⟩
  have F_lowest : FnP P w K mg base "lowest" (1) ["n", "d"] (spP K (tcC cInt (tc1 cInt)) (fun x => m_lowest x.1 x.2) (cTup (tcC cInt (tc1 cInt)))) := ok_lowest T D_lowest g_lowest
  have F_plus : FnP P w K mg base "plus" (2) ["p", "q"] (spP K (tcC (cTup (tcC cInt (tc1 cInt))) (tc1 (cTup (tcC cInt (tc1 cInt))))) (fun x => m_plus x.1 x.2) (cTup (tcC cInt (tc1 cInt)))) := ok_plus T D_plus g_plus F_lowest
  have F_minus : FnP P w K mg base "minus" (2) ["p", "q"] (spP K (tcC (cTup (tcC cInt (tc1 cInt))) (tc1 (cTup (tcC cInt (tc1 cInt))))) (fun x => m_minus x.1 x.2) (cTup (tcC cInt (tc1 cInt)))) := ok_minus T D_minus g_minus F_lowest
  have F_is_less : FnP P w K mg base "is_less" (1) ["p", "q"] (spP K (tcC (cTup (tcC cInt (tc1 cInt))) (tc1 (cTup (tcC cInt (tc1 cInt))))) (fun x => m_is_less x.1 x.2) cBool) := ok_is_less T D_is_less g_is_less
  have F_is_wide_box : FnP P w K mg base "is_wide_box" (2) ["box"] (spP K (tc1 (cTup (tcC (cTup (tcC cInt (tc1 cInt))) (tcC (cTup (tcC cInt (tc1 cInt))) (tcC (cTup (tcC cInt (tc1 cInt))) (tc1 (cTup (tcC cInt (tc1 cInt))))))))) (fun x => m_is_wide_box x) cBool) := ok_is_wide_box T D_is_wide_box g_is_wide_box F_is_less
  have F_boxes_lap : FnP P w K mg base "boxes_lap" (3) ["box", "other"] (spP K (tcC (cTup (tcC (cTup (tcC cInt (tc1 cInt))) (tcC (cTup (tcC cInt (tc1 cInt))) (tcC (cTup (tcC cInt (tc1 cInt))) (tc1 (cTup (tcC cInt (tc1 cInt)))))))) (tc1 (cTup (tcC (cTup (tcC cInt (tc1 cInt))) (tcC (cTup (tcC cInt (tc1 cInt))) (tcC (cTup (tcC cInt (tc1 cInt))) (tc1 (cTup (tcC cInt (tc1 cInt)))))))))) (fun x => m_boxes_lap x.1 x.2) cBool) := ok_boxes_lap T D_boxes_lap g_boxes_lap F_is_wide_box F_is_less
  have F_go_box : FnP P w K mg base "go_box" (3) ["box", "heading", "distance"] (spP K (tcC (cTup (tcC (cTup (tcC cInt (tc1 cInt))) (tcC (cTup (tcC cInt (tc1 cInt))) (tcC (cTup (tcC cInt (tc1 cInt))) (tc1 (cTup (tcC cInt (tc1 cInt)))))))) (tcC cStr (tc1 (cTup (tcC cInt (tc1 cInt)))))) (fun x => m_go_box x.1 x.2.1 x.2.2) (cTup (tcC (cTup (tcC cInt (tc1 cInt))) (tcC (cTup (tcC cInt (tc1 cInt))) (tcC (cTup (tcC cInt (tc1 cInt))) (tc1 (cTup (tcC cInt (tc1 cInt))))))))) := ok_go_box T D_go_box g_go_box F_plus F_minus
  have F_with_front : FnP P w K mg base "with_front" (1) ["sides", "front", "heading"] (spP K (tcC (cSeq (cTup (tcC cInt (tc1 cInt)))) (tcC (cTup (tcC cInt (tc1 cInt))) (tc1 cStr))) (fun x => m_with_front x.1 x.2.1 x.2.2) (cSeq (cTup (tcC cInt (tc1 cInt))))) := ok_with_front T D_with_front g_with_front
  have F_swept_box : FnP P w K mg base "swept_box" (4) ["box", "heading", "distance"] (spP K (tcC (cTup (tcC (cTup (tcC cInt (tc1 cInt))) (tcC (cTup (tcC cInt (tc1 cInt))) (tcC (cTup (tcC cInt (tc1 cInt))) (tc1 (cTup (tcC cInt (tc1 cInt)))))))) (tcC cStr (tc1 (cTup (tcC cInt (tc1 cInt)))))) (fun x => m_swept_box x.1 x.2.1 x.2.2) (cTup (tcC (cTup (tcC cInt (tc1 cInt))) (tcC (cTup (tcC cInt (tc1 cInt))) (tcC (cTup (tcC cInt (tc1 cInt))) (tc1 (cTup (tcC cInt (tc1 cInt))))))))) := ok_swept_box T D_swept_box g_swept_box F_with_front F_go_box
  have F_passes_clear : FnP P w K mg base "passes_clear" (5) ["box", "heading", "distance", "other"] (spP K (tcC (cTup (tcC (cTup (tcC cInt (tc1 cInt))) (tcC (cTup (tcC cInt (tc1 cInt))) (tcC (cTup (tcC cInt (tc1 cInt))) (tc1 (cTup (tcC cInt (tc1 cInt)))))))) (tcC cStr (tcC (cTup (tcC cInt (tc1 cInt))) (tc1 (cTup (tcC (cTup (tcC cInt (tc1 cInt))) (tcC (cTup (tcC cInt (tc1 cInt))) (tcC (cTup (tcC cInt (tc1 cInt))) (tc1 (cTup (tcC cInt (tc1 cInt)))))))))))) (fun x => m_passes_clear x.1 x.2.1 x.2.2.1 x.2.2.2) cBool) := ok_passes_clear T D_passes_clear g_passes_clear F_boxes_lap F_swept_box
  have F__law_tape : FnP P w K mg base "_law_tape" (1) ["script"] (spN K (tc1 cScr) (fun x => m_law_tape x) celT) := ok__law_tape T D__law_tape g__law_tape
  have F__law_draw : FnP P w K mg base "_law_draw" (1) ["tape", "many"] (spM K celT (tc1 cInt) (fun tp x => m_law_draw tp x) cInt) := ok__law_draw T D__law_draw g__law_draw
  have F__law_pick : ∀ {Aa : Type} (ca : Cod K Aa), FnP P w K mg base "_law_pick" (2) ["tape", "menu"] (spM K celT (tc1 (cLst ca)) (fun tp x => m_law_pick tp x) ca) := fun {_} ca => ok__law_pick ca T D__law_pick g__law_pick F__law_draw
  have F__law_turns : FnP P w K mg base "_law_turns" (2) ["tape", "many"] (spMN K celT (tc1 cInt) (fun tp x => m_law_turns tp x) (lstC cInt)) := ok__law_turns T D__law_turns g__law_turns F__law_draw
  have F__law_put : FnP P w K mg base "_law_put" (1) ["told", "place", "thing"] (spP K (tcC (cSeq cU) (tcC cInt (tc1 cU))) (fun x => m_law_put x.1 x.2.1 x.2.2) (cSeq cU)) := ok__law_put T D__law_put g__law_put
  have F__law_same : ∀ fuel : Nat, FnP P w K mg base "_law_same" (1 + fuel) ["told", "wanted"] (spP K (tcC cU (tc1 cU)) (fun x => m_law_same fuel x.1 x.2) cBool) := ok__law_same T D__law_same g__law_same
  have F__law_low : FnP P w K mg base "_law_low" (1) ["n", "d"] (spP K (tcC cInt (tc1 cInt)) (fun x => m_law_low x.1 x.2) (cTup (tcC cInt (tc1 cInt)))) := ok__law_low T D__law_low g__law_low
  have F__law_given : FnP P w K mg base "_law_given" (2) ["box", "unit"] (spP K (tcC (cTup (tcC cInt (tcC cInt (tcC cInt (tc1 cInt))))) (tc1 cInt)) (fun x => m_law_given x.1 x.2) (cSeq (cTup (tcC cInt (tc1 cInt))))) := ok__law_given T D__law_given g__law_given F__law_low
  have F__law_point : FnP P w K mg base "_law_point" (1) ["boxes", "x", "y"] (spP K (tcC (cLst (cTup (tcC cInt (tcC cInt (tcC cInt (tc1 cInt)))))) (tcC cInt (tc1 cInt))) (fun x => m_law_point x.1 x.2.1 x.2.2) cBool) := ok__law_point T D__law_point g__law_point
  have F__law_covered : FnP P w K mg base "_law_covered" (1) ["boxes", "x", "y"] (spP K (tcC (cLst (cTup (tcC cInt (tcC cInt (tcC cInt (tc1 cInt)))))) (tcC cInt (tc1 cInt))) (fun x => m_law_covered x.1 x.2.1 x.2.2) cBool) := ok__law_covered T D__law_covered g__law_covered
  have F__law_inner : FnP P w K mg base "_law_inner" (2) ["boxes", "x", "y"] (spP K (tcC (cLst (cTup (tcC cInt (tcC cInt (tcC cInt (tc1 cInt)))))) (tcC cInt (tc1 cInt))) (fun x => m_law_inner x.1 x.2.1 x.2.2) cBool) := ok__law_inner T D__law_inner g__law_inner F__law_covered
  have F__law_cuts : FnP P w K mg base "_law_cuts" (1) ["boxes", "low"] (spP K (tcC (cLst (cTup (tcC cInt (tcC cInt (tcC cInt (tc1 cInt)))))) (tc1 cInt)) (fun x => m_law_cuts x.1 x.2) (cLst cInt)) := ok__law_cuts T D__law_cuts g__law_cuts
  have F__law_few : FnP P w K mg base "_law_few" (2) ["boxes"] (spP K (tc1 (cLst (cTup (tcC cInt (tcC cInt (tcC cInt (tc1 cInt))))))) (fun x => m_law_few x) (cLst (cTup (tcC cInt (tc1 cInt))))) := ok__law_few T D__law_few g__law_few F__law_cuts
  have F__law_lap : FnP P w K mg base "_law_lap" (3) ["one", "two"] (spP K (tcC (cLst (cTup (tcC cInt (tcC cInt (tcC cInt (tc1 cInt)))))) (tc1 (cLst (cTup (tcC cInt (tcC cInt (tcC cInt (tc1 cInt)))))))) (fun x => m_law_lap x.1 x.2) cBool) := ok__law_lap T D__law_lap g__law_lap F__law_few F__law_point F__law_inner
  have F__law_heading : FnP P w K mg base "_law_heading" (1) ["word"] (spP K (tc1 cStr) (fun x => m_law_heading x) (cTup (tcC cInt (tc1 cInt)))) := ok__law_heading T D__law_heading g__law_heading
  have F__law_m_go : FnP P w K mg base "_law_m_go" (2) ["box", "heading", "d"] (spP K (tcC (cTup (tcC cInt (tcC cInt (tcC cInt (tc1 cInt))))) (tcC cStr (tc1 cInt))) (fun x => m_law_m_go x.1 x.2.1 x.2.2) (cTup (tcC cInt (tcC cInt (tcC cInt (tc1 cInt)))))) := ok__law_m_go T D__law_m_go g__law_m_go F__law_heading
  have F__law_m_swept : FnP P w K mg base "_law_m_swept" (3) ["box", "heading", "d"] (spP K (tcC (cTup (tcC cInt (tcC cInt (tcC cInt (tc1 cInt))))) (tcC cStr (tc1 cInt))) (fun x => m_law_m_swept x.1 x.2.1 x.2.2) (cTup (tcC cInt (tcC cInt (tcC cInt (tc1 cInt)))))) := ok__law_m_swept T D__law_m_swept g__law_m_swept F__law_m_go
  have F__law_heads : FnP P w K mg base "_law_heads" (1) [] (spP K tc0 (fun x => m_law_heads) (cLst cStr)) := ok__law_heads T D__law_heads g__law_heads
  have F__law_low_high : FnP P w K mg base "_law_low_high" (2) ["tape", "span"] (spM K celT (tc1 cInt) (fun tp x => m_law_low_high tp x) (cTup (tcC cInt (tc1 cInt)))) := ok__law_low_high T D__law_low_high g__law_low_high F__law_draw
  have F__law_loose : FnP P w K mg base "_law_loose" (3) ["tape", "span"] (spM K celT (tc1 cInt) (fun tp x => m_law_loose tp x) (cTup (tcC cInt (tcC cInt (tcC cInt (tc1 cInt)))))) := ok__law_loose T D__law_loose g__law_loose F__law_low_high F__law_draw
  have F__law_solid : FnP P w K mg base "_law_solid" (3) ["tape", "box", "swept"] (spM K celT (tcC (cTup (tcC cInt (tcC cInt (tcC cInt (tc1 cInt))))) (tc1 (cTup (tcC cInt (tcC cInt (tcC cInt (tc1 cInt))))))) (fun tp x => m_law_solid tp x.1 x.2) (cTup (tcC cInt (tcC cInt (tcC cInt (tc1 cInt)))))) := ok__law_solid T D__law_solid g__law_solid F__law_draw F__law_pick
  have F__law_near_far : FnP P w K mg base "_law_near_far" (1) ["box", "heading", "other"] (spP K (tcC (cTup (tcC cInt (tcC cInt (tcC cInt (tc1 cInt))))) (tcC cStr (tc1 (cTup (tcC cInt (tcC cInt (tcC cInt (tc1 cInt)))))))) (fun x => m_law_near_far x.1 x.2.1 x.2.2) (cTup (tcC cInt (tc1 cInt)))) := ok__law_near_far T D__law_near_far g__law_near_far
  have F__law_ask : FnP P w K mg base "_law_ask" (4) ["tape"] (spM K celT tc0 (fun tp x => m_law_ask tp) (cTup (tcC cInt (tcC (cTup (tcC cInt (tcC cInt (tcC cInt (tc1 cInt))))) (tcC cStr (tcC cInt (tcC (cTup (tcC cInt (tcC cInt (tcC cInt (tc1 cInt))))) (tc1 (cTup (tcC cInt (tcC cInt (tcC cInt (tc1 cInt))))))))))))) := ok__law_ask T D__law_ask g__law_ask F__law_pick F__law_draw F__law_low_high F__law_heads F__law_solid F__law_m_swept F__law_near_far F__law_loose
  have F__law_changed : FnP P w K mg base "_law_changed" (4) ["tape", "ask"] (spM K celT (tc1 (cTup (tcC cInt (tcC (cTup (tcC cInt (tcC cInt (tcC cInt (tc1 cInt))))) (tcC cStr (tcC cInt (tcC (cTup (tcC cInt (tcC cInt (tcC cInt (tc1 cInt))))) (tc1 (cTup (tcC cInt (tcC cInt (tcC cInt (tc1 cInt))))))))))))) (fun tp x => m_law_changed tp x) (cTup (tcC cInt (tcC (cTup (tcC cInt (tcC cInt (tcC cInt (tc1 cInt))))) (tcC cStr (tcC cInt (tcC (cTup (tcC cInt (tcC cInt (tcC cInt (tc1 cInt))))) (tc1 (cTup (tcC cInt (tcC cInt (tcC cInt (tc1 cInt))))))))))))) := ok__law_changed T D__law_changed g__law_changed F__law_draw F__law_heads F__law_put F__law_pick F__law_solid F__law_m_swept F__law_m_go
  have F__law_clear : FnP P w K mg base "_law_clear" (4) ["box", "heading", "d", "other"] (spP K (tcC (cTup (tcC cInt (tcC cInt (tcC cInt (tc1 cInt))))) (tcC cStr (tcC cInt (tc1 (cTup (tcC cInt (tcC cInt (tcC cInt (tc1 cInt))))))))) (fun x => m_law_clear x.1 x.2.1 x.2.2.1 x.2.2.2) cBool) := ok__law_clear T D__law_clear g__law_clear F__law_near_far F__law_lap F__law_m_go
  have F__law_right : FnP P w K mg base "_law_right" (8) ["ask", "door"] (spP K (tcC (cTup (tcC cInt (tcC (cTup (tcC cInt (tcC cInt (tcC cInt (tc1 cInt))))) (tcC cStr (tcC cInt (tcC (cTup (tcC cInt (tcC cInt (tcC cInt (tc1 cInt))))) (tc1 (cTup (tcC cInt (tcC cInt (tcC cInt (tc1 cInt)))))))))))) (tc1 cInt)) (fun x => m_law_right x.1 x.2) cBool) := ok__law_right T D__law_right g__law_right F__law_low F_passes_clear F__law_given F__law_same F__law_clear F_go_box F__law_m_go F_swept_box F__law_m_swept
  exact ok_law T D_law F__law_tape F__law_ask F__law_changed F__law_turns F__law_same F__law_right
end K39
open PySem PySem.W PySem.Calls PyProof.Rows
theorem PySem.Challenge.cw_wherehouse_k39_boxes_that_go_and_pass_cl_holds : PySem.Challenge.rw_wherehouse_k39_boxes_that_go_and_pass_cl.Holds := by
  w_on; o_law
  refine HandSHeadRun.head_imp (r := OpenLaw.row PySem.Challenge.rw_wherehouse_k39_boxes_that_go_and_pass_cl) (q := view (OpenLaw.row PySem.Challenge.rw_wherehouse_k39_boxes_that_go_and_pass_cl).prog [0, 43]) (H := K39.hk) (ob := K39.ob) (M := 2000) (loose := K39.loose) (d := HandSHeadRun.topDef (OpenLaw.row PySem.Challenge.rw_wherehouse_k39_boxes_that_go_and_pass_cl).prog 43) (kwd := []) K39.ob_eq
    K39.run (by kernel_rfl) (by kernel_rfl) (by kernel_rfl) (by rfl) (by first | assumption | decide +kernel) (by decide +kernel) ⟨rfl, rfl, rfl, rfl, rfl, by decide +kernel⟩ ?hw ?hc
  case hw => w_witness2
  case hc =>
    refine L2.walk_ofE (l := PySem.Challenge.rw_wherehouse_k39_boxes_that_go_and_pass_cl) (n := 63) (k := 9) (x := "script") (CX := L2.CX0) rfl (by decide) (by kernel_rfl) ⟨rfl, by decide, by decide⟩ ?F (fun _ _ _ _ z => z)
    intro w mg fa h Y G hmg0
    obtain ⟨K, KX, c⟩ := Y
    have hmg : mg ("law" : PySem.Str) = some (.ref fa) := by
      have e : (HandSHeadRun.topDef (OpenLaw.row PySem.Challenge.rw_wherehouse_k39_boxes_that_go_and_pass_cl).prog 43).name = ("law" : PySem.Str) := by kernel_rfl
      rw [← e]
      exact hmg0
    obtain ⟨fd, hb, hF⟩ := K39.facts (P := (PySem.Challenge.rw_wherehouse_k39_boxes_that_go_and_pass_cl).prog) (w := w) KX G hmg c
    exact ⟨K, fd, _, KX, hb, fun H a ns hl _ hS => ⟨H, ns, L2.Same.refl _, ⟨_, rfl, a, rfl, hS⟩, true, K39.law_ok ns hl, fun _ _ v _ h => h⟩, hF⟩

